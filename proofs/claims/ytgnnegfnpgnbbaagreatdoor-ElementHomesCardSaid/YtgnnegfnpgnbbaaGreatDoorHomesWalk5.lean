/- What functions compute: rentries, own, rhome, large, econcat, kopen, points, eqtail. -/
import Derived.Test.YtgnnegfnpgnbbaaGreatDoorHomesFacts
import Derived.Test.YtgnnegfnpgnbbaaGreatDoorHomesPre
import Derived.Test.YtgnnegfnpgnbbaaGreatDoorHomesWalk1
import Derived.Test.YtgnnegfnpgnbbaaGreatDoorHomesWalk2
import Derived.Test.YtgnnegfnpgnbbaaGreatDoorHomesWalk3
set_option maxRecDepth 100000
set_option linter.unusedVariables false
set_option linter.unusedSimpArgs false
namespace Go.Proofs.YtgnnegfnpgnbbaaGreatDoor
open Go Go.RowKit Go.Mix Go.Eng
theorem rentries_ct (L : List Ent) (s1 s2 : Option Addr) (c1 c2 : Nat) (Fa Fb : Nat → Prop) (hal : L.length ≤ 1000) (hpl : ∀ x ∈ L, x.ports.length ≤ 1000) (w0 : World) (ha : EnS Fa w0 s1 L) (hb : EnS Fb w0 s2 L) :
  CT Tryz.prog 15 [.slice s1 L.length c1, .slice s2 L.length c2] w0 no (fun v _ => v = .bool true) := by
 have F0 := Fr.refl no w0
 refine ct_body Tryz.func15 rfl Tryz.ntmps15 (Nat.le_of_ble_eq_true rfl) ?_
 refine wk_seq ?_
 refine wk_region ?_
 refine lx_value (want rfl) (as_bool rfl) ?_
 refine lx_nil ?_
 refine wk_seq ?_
 refine wk_seq ?_
 refine wk_region ?_
 refine lx_value (want rfl) (mv_slice rfl) ?_
 refine lx_value (want rfl) (rn_len Tryz.underlying39 rfl) ?_
 refine lx_value (want rfl) (mv_slice rfl) ?_
 refine lx_value (want rfl) (rn_len Tryz.underlying39 rfl) ?_
 refine lx_value (want rfl) (rn_neq rfl rfl) ?_
 refine lx_dec_f ((fun g => g rfl)) ?_
 refine lx_nil ?_
 refine wk_cond_f rfl ?_
 refine wk_skip ?_
 refine wk_seq ?_
 refine wk_seq ?_
 refine wk_region ?_
 refine lx_value (want rfl) (as_int rfl) ?_
 refine lx_nil ?_
 refine wk_block ?_
 refine wk_loopA [4, 5, 11, 12, 13, 14, 15, 16, 17, 18, 19, 20, 21, 22, 23, 24, 25, 26, 27, 28, 29, 30, 31, 32, 33, 34, 35, 36, 37, 38, 39, 40, 41, 42, 43, 44, 45, 46, 47, 48, 49, 50, 51, 52, 53, 54] no (fun nM ρ w => ∃ (i : Nat), nM = L.length - i ∧ ρ 5 = .int .i64 i ∧ (i ≤ L.length)) _ ⟨0, rfl, rfl, by omega⟩ ?_
 rintro n1 ρ1 w1 A1 EL1 ⟨i, rfl, hs1_5, hi⟩
 have F1 := F0.ext EL1
 have hzL1 := EL1.size
 refine wk_seq ?_
 refine wk_seq ?_
 refine wk_region ?_
 refine lx_value (want rfl) (mv_int hs1_5) ?_
 refine lx_value (want rfl) (mv_slice (A1.at 0 rfl rfl)) ?_
 refine lx_value (want rfl) (rn_len Tryz.underlying39 rfl) ?_
 refine lx_value (want rfl) (rn_lss rfl rfl) ?_
 refine lx_dec (fun hlt => ?_) (fun hlt => ?_)
 ·
  obtain ⟨x, hx⟩ := getx hlt
  have hxp := hpl x (List.mem_of_getElem? hx)
  obtain ⟨bx, ox, rfl, _, sx, cx, hcx, hpx⟩ := ha i x hx
  obtain ⟨by_, oy, rfl, _, sy, cy, hcy, hpy⟩ := hb i x hx
  refine lx_nil ?_
  refine wk_cond_t rfl ?_
  refine wk_skip ?_
  refine wk_seq ?_
  refine wk_block ?_
  refine wk_seq ?_
  refine wk_mix 35 (fun _ => .none) (by kernel_rfl) (by kernel_rfl) (fun kS G hk => by cases hk) (fun kS s y G hk => by cases hk) ?_
  simp only [List.take_succ_cons, List.take_zero, List.take_nil, List.drop_succ_cons, List.drop_zero, List.drop_nil]
  refine mx_calm rfl (want rfl) (fun u1 eu1 fu1 => mv_slice (A1.at 0 rfl rfl)) ?_
  refine mx_calm rfl (want rfl) (fun u2 eu2 fu2 => mv_int hs1_5) ?_
  refine mx_calm rfl (want rfl) (fun u3 eu3 fu3 => rn_index _ Tryz.underlying39 sz_55 rfl rfl rfl (by omega)) ?_
  refine mx_calm rfl (want rfl) (fun u4 eu4 fu4 => rn_fieldAddr fa_55_0 rfl) ?_
  refine mx_calm rfl (want rfl) (fun u5 eu5 fu5 => rn_load1 ag_3 rfl ((F1.ext ((ext_drawn _).trans' eu5)).cell (fun h => h) (hcx 0 _ rfl))) ?_
  refine mx_calm rfl (want rfl) (fun u6 eu6 fu6 => mv_slice (A1.at 1 rfl rfl)) ?_
  refine mx_calm rfl (want rfl) (fun u7 eu7 fu7 => mv_int hs1_5) ?_
  refine mx_calm rfl (want rfl) (fun u8 eu8 fu8 => rn_index _ Tryz.underlying39 sz_55 rfl rfl rfl (by omega)) ?_
  refine mx_calm rfl (want rfl) (fun u9 eu9 fu9 => rn_fieldAddr fa_55_0 rfl) ?_
  refine mx_calm rfl (want rfl) (fun u10 eu10 fu10 => rn_load1 ag_3 rfl ((F1.ext ((ext_drawn _).trans' eu10)).cell (fun h => h) (hcy 0 _ rfl))) ?_
  refine mx_calm rfl (want rfl) (fun u11 eu11 fu11 => rn_neq rfl rfl) ?_
  refine mx_dec_f ((fun g => g rfl)) ?_
  refine mx_calm rfl (want rfl) (fun u12 eu12 fu12 => mv_bool rfl) ?_
  refine mx_calm rfl (want_if (j := 11) (d := 28) (x := false) (y := false) rfl rfl (by decide) rfl) (fun u13 eu13 fu13 => mv_slice (A1.at 0 rfl rfl)) ?_
  refine mx_calm rfl (want_if (j := 11) (d := 28) (x := false) (y := false) rfl rfl (by decide) rfl) (fun u14 eu14 fu14 => mv_int hs1_5) ?_
  refine mx_calm rfl (want_if (j := 11) (d := 28) (x := false) (y := false) rfl rfl (by decide) rfl) (fun u15 eu15 fu15 => rn_index _ Tryz.underlying39 sz_55 rfl rfl rfl (by omega)) ?_
  refine mx_calm rfl (want_if (j := 11) (d := 28) (x := false) (y := false) rfl rfl (by decide) rfl) (fun u16 eu16 fu16 => rn_fieldAddr fa_55_1 rfl) ?_
  refine mx_calm rfl (want_if (j := 11) (d := 28) (x := false) (y := false) rfl rfl (by decide) rfl) (fun u17 eu17 fu17 => rn_load1 ag_3 rfl ((F1.ext ((ext_drawn _).trans' eu17)).cell (fun h => h) (hcx 1 _ rfl))) ?_
  refine mx_calm rfl (want_if (j := 11) (d := 28) (x := false) (y := false) rfl rfl (by decide) rfl) (fun u18 eu18 fu18 => mv_slice (A1.at 1 rfl rfl)) ?_
  refine mx_calm rfl (want_if (j := 11) (d := 28) (x := false) (y := false) rfl rfl (by decide) rfl) (fun u19 eu19 fu19 => mv_int hs1_5) ?_
  refine mx_calm rfl (want_if (j := 11) (d := 28) (x := false) (y := false) rfl rfl (by decide) rfl) (fun u20 eu20 fu20 => rn_index _ Tryz.underlying39 sz_55 rfl rfl rfl (by omega)) ?_
  refine mx_calm rfl (want_if (j := 11) (d := 28) (x := false) (y := false) rfl rfl (by decide) rfl) (fun u21 eu21 fu21 => rn_fieldAddr fa_55_1 rfl) ?_
  refine mx_calm rfl (want_if (j := 11) (d := 28) (x := false) (y := false) rfl rfl (by decide) rfl) (fun u22 eu22 fu22 => rn_load1 ag_3 rfl ((F1.ext ((ext_drawn _).trans' eu22)).cell (fun h => h) (hcy 1 _ rfl))) ?_
  refine mx_calm rfl (want_if (j := 11) (d := 28) (x := false) (y := false) rfl rfl (by decide) rfl) (fun u23 eu23 fu23 => rn_neq rfl rfl) ?_
  refine mx_dec_f ((fun g => g rfl)) ?_
  refine mx_calm rfl (want rfl) (fun u24 eu24 fu24 => pick_f rfl rfl) ?_
  refine mx_calm rfl (want rfl) (fun u25 eu25 fu25 => mv_bool rfl) ?_
  refine mx_calm rfl (want_if (j := 24) (d := 41) (x := false) (y := false) rfl rfl (by decide) rfl) (fun u26 eu26 fu26 => mv_slice (A1.at 0 rfl rfl)) ?_
  refine mx_calm rfl (want_if (j := 24) (d := 41) (x := false) (y := false) rfl rfl (by decide) rfl) (fun u27 eu27 fu27 => mv_int hs1_5) ?_
  refine mx_calm rfl (want_if (j := 24) (d := 41) (x := false) (y := false) rfl rfl (by decide) rfl) (fun u28 eu28 fu28 => rn_index _ Tryz.underlying39 sz_55 rfl rfl rfl (by omega)) ?_
  refine mx_calm rfl (want_if (j := 24) (d := 41) (x := false) (y := false) rfl rfl (by decide) rfl) (fun u29 eu29 fu29 => rn_fieldAddr fa_55_2 rfl) ?_
  refine mx_calm rfl (want_if (j := 24) (d := 41) (x := false) (y := false) rfl rfl (by decide) rfl) (fun u30 eu30 fu30 => rn_load1 ag_53 rfl ((F1.ext ((ext_drawn _).trans' eu30)).cell (fun h => h) (hcx 2 _ rfl))) ?_
  refine mx_calm rfl (want_if (j := 24) (d := 41) (x := false) (y := false) rfl rfl (by decide) rfl) (fun u31 eu31 fu31 => mv_slice (A1.at 1 rfl rfl)) ?_
  refine mx_calm rfl (want_if (j := 24) (d := 41) (x := false) (y := false) rfl rfl (by decide) rfl) (fun u32 eu32 fu32 => mv_int hs1_5) ?_
  refine mx_calm rfl (want_if (j := 24) (d := 41) (x := false) (y := false) rfl rfl (by decide) rfl) (fun u33 eu33 fu33 => rn_index _ Tryz.underlying39 sz_55 rfl rfl rfl (by omega)) ?_
  refine mx_calm rfl (want_if (j := 24) (d := 41) (x := false) (y := false) rfl rfl (by decide) rfl) (fun u34 eu34 fu34 => rn_fieldAddr fa_55_2 rfl) ?_
  refine mx_calm rfl (want_if (j := 24) (d := 41) (x := false) (y := false) rfl rfl (by decide) rfl) (fun u35 eu35 fu35 => rn_load1 ag_53 rfl ((F1.ext ((ext_drawn _).trans' eu35)).cell (fun h => h) (hcy 2 _ rfl))) ?_
  refine mx_nil (fun w2 E1' H1 HS => ?_)
  have E1 := (ext_drawn _).trans' E1'
  have F2 := F1.ext E1
  have hz1 := E1.size
  refine lx_call (want_if (j := 24) (d := 41) (x := false) (y := false) rfl rfl (by decide) rfl) (ent_func cf_29 (argsC (t_slice rfl) (argsC (t_slice rfl) args0))) (rvalues_ct x.ports sx sy cx cy Fa Fb hxp w2 (hpx.fr (vl_stab _) F2 (fun _ _ h => h)) (hpy.fr (vl_stab _) F2 (fun _ _ h => h))) ?_
  rintro _ w3 E2 rfl
  have F3 := F2.ext E2
  have hz2 := E2.size
  refine lx_value (want_if (j := 24) (d := 41) (x := false) (y := false) rfl rfl (by decide) rfl) (rn_not rfl) ?_
  refine lx_value (want rfl) (pick_f rfl rfl) ?_
  refine lx_nil ?_
  refine wk_cond_f rfl ?_
  refine wk_skip ?_
  refine wk_region ?_
  refine lx_value (want rfl) (mv_int hs1_5) ?_
  refine lx_value (want rfl) (rn_add rfl rfl (by omega)) ?_
  refine lx_value (want rfl) (as_int rfl) ?_
  refine lx_nil ?_
  exact ⟨rfl, (((((((((((((((((((((((((((((((((((((((((((((A1.up rfl _).up rfl _).up rfl _).up rfl _).up rfl _).up rfl _).up rfl _).up rfl _).up rfl _).up rfl _).up rfl _).up rfl _).up rfl _).up rfl _).up rfl _).up rfl _).up rfl _).up rfl _).up rfl _).up rfl _).up rfl _).up rfl _).up rfl _).up rfl _).up rfl _).up rfl _).up rfl _).up rfl _).up rfl _).up rfl _).up rfl _).up rfl _).up rfl _).up rfl _).up rfl _).up rfl _).up rfl _).up rfl _).up rfl _).up rfl _).up rfl _).up rfl _).up rfl _).up rfl _).up rfl _), (Fr.ext (Fr.ext EL1 E1) E2), _, (by omega), i + 1, rfl, rfl, by omega⟩
 ·
  refine lx_nil ?_
  refine wk_cond_f rfl ?_
  refine wk_exit ?_
  refine wk_seq ?_
  refine wk_region ?_
  refine lx_value (want rfl) (as_bool rfl) ?_
  refine lx_nil ?_
  refine wk_ret ?_
  refine retR1 Tryz.results15 (.tmp (t_bool rfl)) F1 ?_
  exact rfl

theorem own_ct (l : List Ent) (s : Option Addr) (c : Nat) (F : Nat → Prop) (hb : l.length ≤ 2000) (hp : ∀ x ∈ l, x.ports.length ≤ 1000) (w0 : World) (hl : EnS F w0 s l) :
  CT Tryz.prog 37 [.slice s l.length c] w0 no (fun v w => ∃ s' c' us Z, v = .slice s' l.length c' ∧ OwnS w 55 3 s' l.length c' us ∧ HZ 3 QO Z w us l ∧ (∀ k, ob s' k → w0.heap.size ≤ k) ∧ (∀ k, Z k → w0.heap.size ≤ k) ∧ ∀ k, Z k → ob s' k → False) := by
 have F0 := Fr.refl no w0
 refine ct_body Tryz.func37 rfl Tryz.ntmps37 (Nat.le_of_ble_eq_true rfl) ?_
 refine wk_seq ?_
 refine wk_region ?_
 refine lx_value (want rfl) (as_slice rfl) ?_
 have hn1 := HZ.nil (α := Ent) qo_s w0
 have hn1i := fun (k : Nat) (hk : zz zn (fun _ => False) k) => (hk.elim : zz none (fun _ => False) k ∨ w0.heap.size ≤ k)
 have tg2 : ∀ k, zz zn (fun _ => False) k → w0.heap.size ≤ k := fun k hk => (hn1i k hk).elim ((fun _ h => zz_nil h) k) (fun h => by omega)
 have ts2_1 : ∀ k, zz zn (fun _ => False) k → ob none k → False := fun k hk h2 => (hn1i k hk).elim (fun h => (fun _ h _ => zz_nil h) k h h2) (fun h => by have := ((OwnS.nil w0 55 3)).lt h2; omega)
 refine lx_nil ?_
 refine wk_seq ?_
 refine wk_seq ?_
 refine wk_region ?_
 refine lx_value (want rfl) (mv_slice rfl) ?_
 refine lx_value (want rfl) (rn_len Tryz.underlying39 rfl) ?_
 refine lx_value (want rfl) (mv_int rfl) ?_
 refine lx_nil ?_
 refine wk_block ?_
 refine wk_loopA [2, 4, 7, 8, 9, 10, 11, 12, 13, 14, 15, 16, 17, 18, 19] (fun j => no j ∨ w0.heap.size ≤ j) (fun nM ρ w => ∃ (i : Nat) (us : List Value) (so1_1 : Option Addr) (co1_1 : Nat) (TT1_1 : Nat → Prop), nM = l.length - i ∧ ρ 7 = .int .i64 i ∧ ρ 2 = .slice so1_1 (i) co1_1 ∧ OwnS w 55 3 so1_1 (i) co1_1 (us) ∧ (∀ k, ob so1_1 k → w0.heap.size ≤ k) ∧ HZ 3 QO TT1_1 w us (l.take i) ∧ (∀ k, zz zn TT1_1 k → w0.heap.size ≤ k) ∧ (∀ k, zz zn TT1_1 k → ob so1_1 k → False) ∧ (i ≤ l.length)) _ ⟨0, [], none, 0, (fun _ => False), rfl, rfl, rfl, (OwnS.nil w0 55 3), (fun _ h => ob_none h), hn1, tg2, ts2_1, by omega⟩ ?_
 rintro n1 ρ1 w1 A1 EL1 ⟨i, us, so1_1, co1_1, TT1_1, rfl, hs1_7, ho1_1, ow1L_1, ge1L_1, tw1L_1, tg1L_1, ts1L_1_1, hi⟩
 have F1 := F0.wide EL1
 have hzL1 := EL1.size
 refine wk_seq ?_
 refine wk_region ?_
 refine lx_value (want rfl) (rn_lss hs1_7 (A1.at 6 rfl rfl)) ?_
 refine lx_dec (fun hlt => ?_) (fun hlt => ?_)
 ·
  obtain ⟨x, hx⟩ := getx hlt
  obtain ⟨bx, ox, hsx, _, sx, cx, hcx, hpx⟩ := hl i x hx
  subst hsx
  have hpl := hp x (List.mem_of_getElem? hx)
  refine lx_nil ?_
  refine wk_seq ?_
  refine wk_cond_t rfl ?_
  refine wk_skip ?_
  refine wk_seq ?_
  refine wk_block ?_
  refine wk_seq ?_
  refine wk_region ?_
  refine lx_value (want rfl) (rn_index _ Tryz.underlying39 sz_55 (A1.at 5 rfl rfl) hs1_7 rfl (by omega)) ?_
  refine lx_value (want rfl) (rn_loadN ag_55 sz_55 rfl rfl (hcx.fr F1 (fun h => h))) ?_
  refine lx_new (want rfl) (rn_alloc ze_55) ?_
  intro b1 w2 hb1 Eb1 B1 hlb1
  have F2 := F1.ext Eb1
  have hzb1 := Eb1.size
  have nb1 : ∀ k, ob so1_1 k → k ≠ b1 := fun k hk => by have := (ow1L_1).lt hk; omega
  have nb2 : ∀ k, zz zn TT1_1 k → k ≠ b1 := fun k hk => by have := (tw1L_1).lt hk; omega
  refine lx_set (want rfl) sz_55 rfl (t_agg rfl) rfl rfl rfl B1 (Nat.le_of_ble_eq_true rfl) ?_
  intro w3 Es1 Bs1
  have F3 := F2.set Es1 (by omega)
  have hzs1 := Es1.size
  refine lx_nil ?_
  refine wk_seq ?_
  refine wk_region ?_
  refine lx_value (want rfl) (rn_fieldAddr fa_55_2 rfl) ?_
  refine lx_value (want rfl) (rn_load1Blk ag_53 rfl Bs1 rfl) ?_
  refine lx_call (want rfl) (ent_func cf_51 (argsC (t_slice rfl) args0)) (clonev_ct x.ports sx cx F w3 (hpx.fr (vl_stab _) F3 (fun _ _ h => h)) (by omega)) ?_
  rintro _ w4 E1 ⟨sV, cV, rfl, hOV, hgV⟩
  have F4 := F3.ext E1
  have hz1 := E1.size
  have ge2 : ∀ k, ob sV k → w0.heap.size ≤ k := fun k hk => (by have := hgV k hk; omega)
  have ne2_1 : ∀ k, ob sV k → k ≠ b1 := fun k hk => by have := hgV k hk; have := (Bs1).lt; omega
  have sp2_1 : ∀ k, ob sV k → ob so1_1 k → False := fun k hk h2 => by have := hgV k hk; have := (ow1L_1).lt h2; omega
  have sj2_1 : ∀ k, zz zn TT1_1 k → ob sV k → False := fun k hk h2 => by have := (tw1L_1).lt hk; have := hgV k h2; omega
  refine lx_value (want rfl) (rn_fieldAddr fa_55_2 rfl) ?_
  refine lx_set (want rfl) sz_53 rfl (t_slice rfl) rfl rfl rfl (Bs1.ext E1) (Nat.le_of_ble_eq_true rfl) ?_
  intro w5 Es2 Bs2
  have F5 := F4.set Es2 (by omega)
  have hzs2 := Es2.size
  refine lx_nil ?_
  refine wk_region ?_
  refine lx_value (want rfl) (mv_slice ho1_1) ?_
  refine lx_value (want rfl) (rn_loadBlk ag_55 sz_55 rfl Bs2 rfl rfl) ?_
  refine lx_newS (want rfl) (rn_bslice (xs := [.tmp 16]) Tryz.underlying39 sz_55 ze_55 rfl (argsC (t_agg rfl) args0) (CL.cons rfl rfl CL.nil) rfl (Nat.le_of_ble_eq_true rfl)) ?_
  intro b2 w6 hb2 Eb2 B2 hlb2
  have F6 := F5.ext Eb2
  have hzb2 := Eb2.size
  have nb3 : ∀ k, ob so1_1 k → k ≠ b2 := fun k hk => by have := (ow1L_1).lt hk; omega
  have nb4 : ∀ k, ob sV k → k ≠ b2 := fun k hk => by have := (hOV).lt hk; omega
  have nb5 : ∀ k, zz zn TT1_1 k → k ≠ b2 := fun k hk => by have := (tw1L_1).lt hk; omega
  refine lx_append 40 (want rfl) Tryz.underlying39 ti_55 (by decide) rfl (by decide) rfl rfl (((((ow1L_1.ext Eb1).ne Es1 (fun h => nb1 _ h rfl)).ext E1).ne Es2 (fun h => nb1 _ h rfl)).ext Eb2) ((Src.blk B2 rfl rfl)) (by omega) ?_
  intro sq3 cq3 w7 AP3
  have EA3 := AP3.fr
  have ow3 := AP3.own
  have ge3 : ∀ k, ob sq3 k → w0.heap.size ≤ k := fun k hk => (AP3.blk k hk).elim (ge1L_1 k) (fun h => (Nat.le_trans F6.size h))
  have ne3_1 : ∀ k, ob sq3 k → k ≠ b1 := fun k hk => (AP3.blk k hk).elim (nb1 k) (fun h => by have := ((Bs2.ext Eb2)).lt; omega)
  have ne3_2 : ∀ k, ob sq3 k → k ≠ b2 := fun k hk => (AP3.blk k hk).elim (nb3 k) (fun h => by have := (B2).lt; omega)
  have sp3_3 : ∀ k, ob sq3 k → ob sV k → False := fun k hk h2 => (AP3.blk k hk).elim (fun h => (fun k h1 h2 => sp2_1 k h2 h1) k h h2) (fun h => by have := (((hOV.ne Es2 (fun h => ne2_1 _ h rfl)).ext Eb2)).lt h2; omega)
  have F7 := F6.new EA3 ge1L_1
  have hzA3 := EA3.size
  have BA3_1 := (Bs2.ext Eb2).fr EA3 (fun h => nb1 _ h rfl)
  have BA3_2 := B2.fr EA3 (fun h => nb3 _ h rfl)
  have oA3_3 := ((hOV.ne Es2 (fun h => ne2_1 _ h rfl)).ext Eb2).fr EA3 (fun k h1 h2 => (fun k h1 h2 => sp2_1 k h2 h1) k h2 h1)
  have sr3_3 : ∀ k, ob sV k → ob sq3 k → False := fun k h1 h2 => sp3_3 k h2 h1
  have sa3_1 : ∀ k, zz zn TT1_1 k → ob sq3 k → False := fun k hk h2 => (AP3.blk k h2).elim (fun h => ts1L_1_1 k hk h) (fun h => by have := ((((((tw1L_1.ext Eb1).fr Es1 (fun k hk h => nb2 k hk h)).ext E1).fr Es2 (fun k hk h => nb2 k hk h)).ext Eb2)).lt hk; omega)
  have tw3 := (by have h := (((((((tw1L_1.ext Eb1).fr Es1 (fun k hk h => nb2 k hk h)).ext E1).fr Es2 (fun k hk h => nb2 k hk h)).ext Eb2).fr EA3 (fun k hk h => ts1L_1_1 k hk h))).snoc (a := enL x sV cV) (Z2 := fun k => ob sV k) (x := x) (show QO _ _ _ _ from ⟨sV, cV, rfl, oA3_3, fun _ h => h⟩) (fun k hk => (oA3_3).lt hk); rwa [take_snoc hx] at h)
  have tg3 : ∀ k, zz zn (fun k => TT1_1 k ∨ ob sV k) k → w0.heap.size ≤ k := fun k => (fun h => h.elim (fun h => tg1L_1 k h) (fun h => ge2 k h))
  have tn3_1 : ∀ k, zz zn (fun k => TT1_1 k ∨ ob sV k) k → k ≠ b1 := fun k => (fun h => h.elim (fun h => nb2 k h) (fun h => ne2_1 k h))
  have tn3_2 : ∀ k, zz zn (fun k => TT1_1 k ∨ ob sV k) k → k ≠ b2 := fun k => (fun h => h.elim (fun h => nb5 k h) (fun h => nb4 k h))
  have ts3_1 : ∀ k, zz zn (fun k => TT1_1 k ∨ ob sV k) k → ob sq3 k → False := fun k h0 h2 => (fun h => h.elim (fun h => sa3_1 k h h2) (fun h => sr3_3 k h h2)) h0
  refine lx_value (want rfl) (as_slice rfl) ?_
  refine lx_nil ?_
  refine wk_region ?_
  refine lx_value (want rfl) (rn_add hs1_7 rfl (by omega)) ?_
  refine lx_value (want rfl) (mv_int rfl) ?_
  refine lx_nil ?_
  exact ⟨rfl, (((((((((((((((((A1.up rfl _).up rfl _).up rfl _).up rfl _).none _).up rfl _).up rfl _).up rfl _).up rfl _).none _).up rfl _).up rfl _).up rfl _).up rfl _).up rfl _).up rfl _).up rfl _), Fr.between F0 F7 (by omega), _, (by omega), i + 1, (us ++ enL x sV cV), sq3, cq3, (fun k => TT1_1 k ∨ ob sV k), rfl, rfl, rfl, ow3, ge3, tw3, tg3, ts3_1, by omega⟩
 ·
  refine lx_nil ?_
  refine wk_seq ?_
  refine wk_cond_f rfl ?_
  refine wk_exit ?_
  refine wk_seq ?_
  refine wk_region ?_
  refine lx_value (want rfl) (mv_slice ho1_1) ?_
  refine lx_value (want rfl) (as_slice rfl) ?_
  refine lx_nil ?_
  refine wk_ret ?_
  refine retR1 Tryz.results37 (.tmp (t_slice rfl)) F1 ?_
  obtain rfl : i = l.length := by omega
  exact ⟨_, _, _, _, rfl, ow1L_1, (by have h := tw1L_1; rwa [List.take_length] at h), ge1L_1, tg1L_1, ts1L_1_1⟩

theorem rhome_ct (ctx at_ n : Int) (w0 : World) :
  CT Tryz.prog 5 [.agg #[.int .i64 ctx, .int .i64 at_], .int .i64 n] w0 no (fun v _ => v = homeV ctx at_ n) := by
 have F0 := Fr.refl no w0
 refine ct_body Tryz.func5 rfl Tryz.ntmps5 (Nat.le_of_ble_eq_true rfl) ?_
 refine wk_seq ?_
 refine wk_region ?_
 refine lx_new (want rfl) (rn_box (t_agg rfl)) ?_
 intro b1 w1 hb1 Eb1 B1 hlb1
 have F1 := F0.ext Eb1
 have hzb1 := Eb1.size
 refine lx_value (want rfl) (as_int rfl) ?_
 refine lx_value (want rfl) (as_int rfl) ?_
 refine lx_nil ?_
 refine wk_seq ?_
 refine wk_seq ?_
 refine wk_region ?_
 refine lx_value (want rfl) (mv_int rfl) ?_
 refine lx_call (want rfl) (ent_func cf_9 (argsC (t_int rfl) (argsC (t_int rfl) (argsC (t_int rfl) args0)))) (in_ct _ _ _ w1) ?_
 rintro _ w2 E1 rfl
 have F2 := F1.ext E1
 have hz1 := E1.size
 refine lx_split (fun h1 => ?_) (fun h1 => ?_)
 ·
  refine lx_value (want rfl) (rn_not rfl) ?_
  refine lx_value (want rfl) (mv_bool rfl) ?_
  refine lx_value (want_if (j := 3) (d := 9) (x := false) (y := false) rfl rfl (by decide) rfl) (rn_fieldAddr fa_23_0 rfl) ?_
  refine lx_value (want_if (j := 3) (d := 9) (x := false) (y := false) rfl rfl (by decide) rfl) (rn_load1Blk ag_3 rfl (B1.ext E1) rfl) ?_
  refine lx_call (want_if (j := 3) (d := 9) (x := false) (y := false) rfl rfl (by decide) rfl) (ent_func cf_9 (argsC (t_int rfl) (argsC (t_int rfl) (argsC (t_int rfl) args0)))) (in_ct _ _ _ w2) ?_
  rintro _ w3 E2 rfl
  have F3 := F2.ext E2
  have hz2 := E2.size
  refine lx_split (fun h2 => ?_) (fun h2 => ?_)
  ·
   refine lx_value (want_if (j := 3) (d := 9) (x := false) (y := false) rfl rfl (by decide) rfl) (rn_not rfl) ?_
   refine lx_value (want rfl) (pick_f rfl rfl) ?_
   refine lx_value (want rfl) (mv_bool rfl) ?_
   refine lx_value (want_if (j := 9) (d := 15) (x := false) (y := false) rfl rfl (by decide) rfl) (rn_fieldAddr fa_23_1 rfl) ?_
   refine lx_value (want_if (j := 9) (d := 15) (x := false) (y := false) rfl rfl (by decide) rfl) (rn_load1Blk ag_3 rfl ((B1.ext E1).ext E2) rfl) ?_
   refine lx_call (want_if (j := 9) (d := 15) (x := false) (y := false) rfl rfl (by decide) rfl) (ent_func cf_9 (argsC (t_int rfl) (argsC (t_int rfl) (argsC (t_int rfl) args0)))) (in_ct _ _ _ w3) ?_
   rintro _ w4 E3 rfl
   have F4 := F3.ext E3
   have hz3 := E3.size
   refine lx_split (fun h3 => ?_) (fun h3 => ?_)
   ·
    refine lx_value (want_if (j := 9) (d := 15) (x := false) (y := false) rfl rfl (by decide) rfl) (rn_not rfl) ?_
    refine lx_value (want rfl) (pick_f rfl rfl) ?_
    refine lx_nil ?_
    refine wk_cond_f rfl ?_
    refine wk_skip ?_
    refine wk_seq ?_
    refine wk_region ?_
    refine lx_value (want rfl) (rn_fieldAddr fa_23_0 rfl) ?_
    refine lx_value (want rfl) (rn_load1Blk ag_3 rfl (((B1.ext E1).ext E2).ext E3) rfl) ?_
    refine lx_value (want rfl) (rn_mul rfl rfl (by have h2 := of_decide_eq_true h2; omega)) ?_
    refine lx_value (want rfl) (rn_fieldAddr fa_23_1 rfl) ?_
    refine lx_value (want rfl) (rn_load1Blk ag_3 rfl (((B1.ext E1).ext E2).ext E3) rfl) ?_
    refine lx_value (want rfl) (rn_add rfl rfl (by have h2 := of_decide_eq_true h2; have h3 := of_decide_eq_true h3; omega)) ?_
    refine lx_value (want rfl) (mv_int rfl) ?_
    refine lx_value (want rfl) (rn_rem rfl rfl (by have h1 := of_decide_eq_true h1; have h2 := of_decide_eq_true h2; have h3 := of_decide_eq_true h3; omega)) ?_
    refine lx_value (want rfl) (as_int rfl) ?_
    refine lx_value (want rfl) (as_int rfl) ?_
    refine lx_nil ?_
    refine wk_ret ?_
    refine retR2 Tryz.results5 (.tmp (t_int rfl)) (.tmp (t_int rfl)) F4 ?_
    first | exact home_yes (of_decide_eq_true h1) (of_decide_eq_true h2) (of_decide_eq_true h3) | exact home_no (fun g => (of_decide_eq_false h1) g.1) | exact home_no (fun g => (of_decide_eq_false h2) g.2.1) | exact home_no (fun g => (of_decide_eq_false h3) g.2.2)
   ·
    refine lx_value (want_if (j := 9) (d := 15) (x := false) (y := false) rfl rfl (by decide) rfl) (rn_not rfl) ?_
    refine lx_value (want rfl) (pick_f rfl rfl) ?_
    refine lx_nil ?_
    refine wk_cond_t rfl ?_
    refine wk_seq ?_
    refine wk_region ?_
    refine lx_value (want rfl) (as_int rfl) ?_
    refine lx_value (want rfl) (as_int rfl) ?_
    refine lx_nil ?_
    refine wk_ret ?_
    refine retR2 Tryz.results5 (.tmp (t_int rfl)) (.tmp (t_int rfl)) F4 ?_
    first | exact home_yes (of_decide_eq_true h1) (of_decide_eq_true h2) (of_decide_eq_true h3) | exact home_no (fun g => (of_decide_eq_false h1) g.1) | exact home_no (fun g => (of_decide_eq_false h2) g.2.1) | exact home_no (fun g => (of_decide_eq_false h3) g.2.2)
  ·
   refine lx_value (want_if (j := 3) (d := 9) (x := false) (y := false) rfl rfl (by decide) rfl) (rn_not rfl) ?_
   refine lx_value (want rfl) (pick_f rfl rfl) ?_
   refine lx_value (want rfl) (mv_bool rfl) ?_
   refine lx_skip (want_if (j := 9) (d := 15) (x := false) (y := true) rfl rfl (by decide) rfl) ?_
   refine lx_skip (want_if (j := 9) (d := 15) (x := false) (y := true) rfl rfl (by decide) rfl) ?_
   refine lx_skip (want_if (j := 9) (d := 15) (x := false) (y := true) rfl rfl (by decide) rfl) ?_
   refine lx_skip (want_if (j := 9) (d := 15) (x := false) (y := true) rfl rfl (by decide) rfl) ?_
   refine lx_value (want rfl) (pick_t rfl rfl) ?_
   refine lx_nil ?_
   refine wk_cond_t rfl ?_
   refine wk_seq ?_
   refine wk_region ?_
   refine lx_value (want rfl) (as_int rfl) ?_
   refine lx_value (want rfl) (as_int rfl) ?_
   refine lx_nil ?_
   refine wk_ret ?_
   refine retR2 Tryz.results5 (.tmp (t_int rfl)) (.tmp (t_int rfl)) F3 ?_
   first | exact home_yes (of_decide_eq_true h1) (of_decide_eq_true h2) (of_decide_eq_true h3) | exact home_no (fun g => (of_decide_eq_false h1) g.1) | exact home_no (fun g => (of_decide_eq_false h2) g.2.1) | exact home_no (fun g => (of_decide_eq_false h3) g.2.2)
 ·
  refine lx_value (want rfl) (rn_not rfl) ?_
  refine lx_value (want rfl) (mv_bool rfl) ?_
  refine lx_skip (want_if (j := 3) (d := 9) (x := false) (y := true) rfl rfl (by decide) rfl) ?_
  refine lx_skip (want_if (j := 3) (d := 9) (x := false) (y := true) rfl rfl (by decide) rfl) ?_
  refine lx_skip (want_if (j := 3) (d := 9) (x := false) (y := true) rfl rfl (by decide) rfl) ?_
  refine lx_skip (want_if (j := 3) (d := 9) (x := false) (y := true) rfl rfl (by decide) rfl) ?_
  refine lx_value (want rfl) (pick_t rfl rfl) ?_
  refine lx_value (want rfl) (mv_bool rfl) ?_
  refine lx_skip (want_if (j := 9) (d := 15) (x := false) (y := true) rfl rfl (by decide) rfl) ?_
  refine lx_skip (want_if (j := 9) (d := 15) (x := false) (y := true) rfl rfl (by decide) rfl) ?_
  refine lx_skip (want_if (j := 9) (d := 15) (x := false) (y := true) rfl rfl (by decide) rfl) ?_
  refine lx_skip (want_if (j := 9) (d := 15) (x := false) (y := true) rfl rfl (by decide) rfl) ?_
  refine lx_value (want rfl) (pick_t rfl rfl) ?_
  refine lx_nil ?_
  refine wk_cond_t rfl ?_
  refine wk_seq ?_
  refine wk_region ?_
  refine lx_value (want rfl) (as_int rfl) ?_
  refine lx_value (want rfl) (as_int rfl) ?_
  refine lx_nil ?_
  refine wk_ret ?_
  refine retR2 Tryz.results5 (.tmp (t_int rfl)) (.tmp (t_int rfl)) F2 ?_
  first | exact home_yes (of_decide_eq_true h1) (of_decide_eq_true h2) (of_decide_eq_true h3) | exact home_no (fun g => (of_decide_eq_false h1) g.1) | exact home_no (fun g => (of_decide_eq_false h2) g.2.1) | exact home_no (fun g => (of_decide_eq_false h3) g.2.2)

theorem large_ct (l : List Sg) (sl : Option Addr) (cl : Nat) (F : Nat → Prop) (hc : ChkG l) (w0 : World) (hL : SgS F w0 sl l) :
  CT Tryz.prog 123 [.slice sl l.length cl] w0 no (fun v _ => v = .bool false) := by
 have hll := smallG_len hc.sm
 have hcn := hc.cnt
 have F0 := Fr.refl no w0
 refine ct_body Tryz.func123 rfl Tryz.ntmps123 (Nat.le_of_ble_eq_true rfl) ?_
 refine wk_seq ?_
 refine wk_region ?_
 refine lx_value (want rfl) (as_bool rfl) ?_
 refine lx_nil ?_
 refine wk_seq ?_
 refine wk_region ?_
 refine lx_value (want rfl) (as_int rfl) ?_
 refine lx_nil ?_
 refine wk_seq ?_
 refine wk_seq ?_
 refine wk_region ?_
 refine lx_value (want rfl) (mv_slice rfl) ?_
 refine lx_value (want rfl) (rn_len Tryz.underlying128 rfl) ?_
 refine lx_value (want rfl) (mv_int rfl) ?_
 refine lx_nil ?_
 refine wk_block ?_
 refine wk_loopA [3, 5, 7, 10, 11, 12, 13, 14, 15, 16, 17, 18, 19, 20, 21, 22, 23, 24, 25, 26] no (fun nM ρ w => ∃ (i : Nat), nM = l.length - i ∧ ρ 3 = .int .i64 (cntG (l.take i) : Nat) ∧ ρ 10 = .int .i64 i ∧ (i ≤ l.length)) _ ⟨0, rfl, rfl, rfl, by omega⟩ ?_
 rintro n1 ρ1 w1 A1 EL1 ⟨i, rfl, hs1_3, hs1_10, hi⟩
 have F1 := F0.ext EL1
 have hzL1 := EL1.size
 refine wk_seq ?_
 refine wk_region ?_
 refine lx_value (want rfl) (rn_lss hs1_10 (A1.at 9 rfl rfl)) ?_
 refine lx_dec (fun hlt => ?_) (fun hlt => ?_)
 ·
  obtain ⟨g, hg⟩ := getx hlt
  have hgb := smallG_at hc.sm hg
  have hib := smallI_len hgb.2.1
  have hcb := cntG_bd hc.sm i
  obtain ⟨bx, ox, hsx, hFx, ss, cs, si, ci, hcx, hst, hins, hroom⟩ := hL i g hg
  subst hsx
  refine lx_nil ?_
  refine wk_seq ?_
  refine wk_cond_t rfl ?_
  refine wk_skip ?_
  refine wk_seq ?_
  refine wk_block ?_
  refine wk_seq ?_
  refine wk_region ?_
  refine lx_value (want rfl) (rn_index _ Tryz.underlying128 sz_181 (A1.at 8 rfl rfl) hs1_10 rfl (by omega)) ?_
  refine lx_value (want rfl) (rn_loadN ag_181 sz_181 rfl rfl (hcx.fr F1 (fun h => h))) ?_
  refine lx_new (want rfl) (rn_alloc ze_181) ?_
  intro b1 w2 hb1 Eb1 B1 hlb1
  have F2 := F1.ext Eb1
  have hzb1 := Eb1.size
  refine lx_set (want rfl) sz_181 rfl (t_agg rfl) rfl rfl rfl B1 (Nat.le_of_ble_eq_true rfl) ?_
  intro w3 Es1 Bs1
  have F3 := F2.set Es1 (by omega)
  have hzs1 := Es1.size
  refine lx_nil ?_
  refine wk_seq ?_
  refine wk_region ?_
  refine lx_value (want rfl) (rn_fieldAddr fa_181_3 rfl) ?_
  refine lx_value (want rfl) (rn_load1Blk ag_33 rfl Bs1 rfl) ?_
  refine lx_value (want rfl) (rn_len Tryz.underlying33 rfl) ?_
  refine lx_value (want rfl) (mv_int rfl) ?_
  refine lx_nil ?_
  refine wk_block ?_
  refine wk_loopA [3, 7, 17, 18, 19, 20, 21, 22, 23, 24, 25] no (fun nM ρ w => ∃ (j : Nat), nM = g.ins.length - j ∧ ρ 3 = .int .i64 (cntG (l.take i) + cntI (g.ins.take j) : Nat) ∧ ρ 17 = .int .i64 j ∧ (j ≤ g.ins.length)) _ ⟨0, rfl, hs1_3, rfl, by omega⟩ ?_
  rintro n2 ρ2 w4 A2 EL2 ⟨j, rfl, hs2_3, hs2_17, hj⟩
  have F4 := F3.ext EL2
  have hzL2 := EL2.size
  refine wk_seq ?_
  refine wk_region ?_
  refine lx_value (want rfl) (rn_lss hs2_17 (A2.at 16 rfl rfl)) ?_
  refine lx_dec (fun hlt2 => ?_) (fun hlt2 => ?_)
  ·
   obtain ⟨x, hx⟩ := getx hlt2
   have hcj := cntI_le g.ins j
   have hcs := cntI_step hx
   obtain ⟨by_, oy, hsy, hFy, so, co, hcy, hco⟩ := hins j x hx
   subst hsy
   refine lx_nil ?_
   refine wk_seq ?_
   refine wk_cond_t rfl ?_
   refine wk_skip ?_
   refine wk_seq ?_
   refine wk_block ?_
   refine wk_seq ?_
   refine wk_region ?_
   refine lx_value (want rfl) (rn_index _ Tryz.underlying33 sz_73 (A2.at 15 rfl rfl) hs2_17 rfl (by omega)) ?_
   refine lx_value (want rfl) (rn_loadN ag_73 sz_73 rfl rfl (hcy.fr F4 (fun h => h))) ?_
   refine lx_new (want rfl) (rn_alloc ze_73) ?_
   intro b2 w5 hb2 Eb2 B2 hlb2
   have F5 := F4.ext Eb2
   have hzb2 := Eb2.size
   refine lx_set (want rfl) sz_73 rfl (t_agg rfl) rfl rfl rfl B2 (Nat.le_of_ble_eq_true rfl) ?_
   intro w6 Es2 Bs2
   have F6 := F5.set Es2 (by omega)
   have hzs2 := Es2.size
   refine lx_nil ?_
   refine wk_seq ?_
   refine wk_region ?_
   refine lx_value (want rfl) (rn_loadBlk ag_73 sz_73 rfl Bs2 rfl rfl) ?_
   refine lx_call (want rfl) (ent_func cf_136 (argsC (t_agg rfl) args0)) (isnode_ct _ _ _ w6) ?_
   rintro _ w7 E1 rfl
   have F7 := F6.ext E1
   have hz1 := E1.size
   refine lx_split (fun hnd => ?_) (fun hnd => ?_)
   ·
    rw [if_pos hnd] at hcs
    refine lx_nil ?_
    refine wk_cond_t rfl ?_
    refine wk_region ?_
    refine lx_value (want rfl) (mv_int hs2_3) ?_
    refine lx_value (want rfl) (rn_addN rfl (n := 1) rfl (by omega)) ?_
    refine lx_value (want rfl) (as_int rfl) ?_
    refine lx_nil ?_
    refine wk_region ?_
    refine lx_value (want rfl) (rn_add hs2_17 rfl (by omega)) ?_
    refine lx_value (want rfl) (mv_int rfl) ?_
    refine lx_nil ?_
    exact ⟨rfl, ((((((((((((A2.up rfl _).up rfl _).up rfl _).up rfl _).none _).up rfl _).up rfl _).up rfl _).up rfl _).up rfl _).up rfl _).up rfl _), (Fr.ext (Fr.trans (Fr.ext EL2 Eb2) Es2 (fun i hi1 h => (absurd hi1 (by omega)))) E1), _, (by omega), j + 1, rfl, (by rw [hcs]; first | exact rfl | exact rfl), rfl, by omega⟩
   ·
    rw [if_neg (by rw [hnd]; exact Bool.false_ne_true)] at hcs
    refine lx_nil ?_
    refine wk_cond_f rfl ?_
    refine wk_skip ?_
    refine wk_region ?_
    refine lx_value (want rfl) (rn_add hs2_17 rfl (by omega)) ?_
    refine lx_value (want rfl) (mv_int rfl) ?_
    refine lx_nil ?_
    exact ⟨rfl, (((((((((A2.up rfl _).up rfl _).up rfl _).up rfl _).none _).up rfl _).up rfl _).up rfl _).up rfl _), (Fr.ext (Fr.trans (Fr.ext EL2 Eb2) Es2 (fun i hi1 h => (absurd hi1 (by omega)))) E1), _, (by omega), j + 1, rfl, (by rw [hcs]; first | exact hs2_3 | exact hs2_3), rfl, by omega⟩
  ·
   refine lx_nil ?_
   refine wk_seq ?_
   refine wk_cond_f rfl ?_
   refine wk_exit ?_
   refine wk_region ?_
   refine lx_value (want rfl) (rn_add (A2.at 10 rfl hs1_10) rfl (by omega)) ?_
   refine lx_value (want rfl) (mv_int rfl) ?_
   refine lx_nil ?_
   exact ⟨rfl, (((((((((((((A1.up rfl _).up rfl _).up rfl _).up rfl _).none _).up rfl _).up rfl _).up rfl _).up rfl _).loop A2 rfl).up rfl _).up rfl _).up rfl _), (Fr.ext (Fr.trans (Fr.ext EL1 Eb1) Es1 (fun i hi1 h => (absurd hi1 (by omega)))) EL2), _, (by omega), i + 1, rfl, (by rw [cntG_step hg, ← List.take_length (l := g.ins), ← cnt_end hlt2 hj]; exact hs2_3), rfl, by omega⟩
 ·
  refine lx_nil ?_
  refine wk_seq ?_
  refine wk_cond_f rfl ?_
  refine wk_exit ?_
  refine wk_seq ?_
  refine wk_region ?_
  refine lx_value (want rfl) (mv_slice (A1.at 0 rfl rfl)) ?_
  refine lx_value (want rfl) (rn_len Tryz.underlying128 rfl) ?_
  refine lx_value (want rfl) (rn_gtr rfl rfl) ?_
  refine lx_dec_f ((by omega)) ?_
  refine lx_value (want rfl) (mv_bool rfl) ?_
  refine lx_value (want_if (j := 3) (d := 30) (x := false) (y := false) rfl rfl (by decide) rfl) (mv_int hs1_3) ?_
  refine lx_value (want_if (j := 3) (d := 30) (x := false) (y := false) rfl rfl (by decide) rfl) (rn_gtr rfl rfl) ?_
  refine lx_value (want rfl) (pick_f rfl rfl) ?_
  refine lx_value (want rfl) (as_bool rfl) ?_
  refine lx_nil ?_
  refine wk_ret ?_
  refine retR1 Tryz.results123 (.tmp (t_bool rfl)) F1 ?_
  exact congrArg Value.bool (decide_eq_false (by rw [List.take_of_length_le (by omega)]; omega))

theorem econcat_ct (La Lb : List Ent) (b : Nat) (s1 s2 : Option Addr) (c1 c2 : Nat) (F : Nat → Prop) (h1l : La.length ≤ 1000) (h2l : Lb.length ≤ 1000) (w0 : World) (hB : Blk w0 b [.slice s1 La.length c1, .slice s2 Lb.length c2] 39) (h1 : EnS F w0 s1 La) (h2 : EnS F w0 s2 Lb) :
  CT Tryz.prog 63 [.slice (some ⟨b, 0, none⟩) 2 2] w0 no (fun v w => ∃ s c, v = .slice s (La ++ Lb).length c ∧ EnS (fun k => F k ∨ w0.heap.size ≤ k) w s (La ++ Lb)) := by
 obtain ⟨us1, hR1, hSr1⟩ := en_src h1
 obtain ⟨us2, hR2, hSr2⟩ := en_src h2
 have F0 := Fr.refl no w0
 refine ct_body Tryz.func63 rfl Tryz.ntmps63 (Nat.le_of_ble_eq_true rfl) ?_
 refine wk_seq ?_
 refine wk_region ?_
 refine lx_value (want rfl) (as_slice rfl) ?_
 refine lx_nil ?_
 refine wk_seq ?_
 refine wk_region ?_
 refine lx_value (want rfl) (as_int rfl) ?_
 refine lx_nil ?_
 refine wk_seq ?_
 refine wk_seq ?_
 refine wk_region ?_
 refine lx_value (want rfl) (mv_slice rfl) ?_
 refine lx_value (want rfl) (rn_len Tryz.underlying168 rfl) ?_
 refine lx_value (want rfl) (mv_int rfl) ?_
 refine lx_nil ?_
 refine wk_block ?_
 refine wk_loopA [3, 5, 11, 12, 13, 14, 15, 16, 17, 18, 19, 20, 21, 22] no (fun nM ρ w => ∃ (i : Nat), nM = 2 - i ∧ ρ 11 = .int .i64 i ∧ ρ 3 = .int .i64 ((catL La Lb i).length : Nat) ∧ (i ≤ 2)) _ ⟨0, rfl, rfl, rfl, by omega⟩ ?_
 rintro n1 ρ1 w1 A1 EL1 ⟨i, rfl, hs1_11, hs1_3, hi⟩
 have F1 := F0.ext EL1
 have hzL1 := EL1.size
 refine wk_seq ?_
 refine wk_region ?_
 refine lx_value (want rfl) (rn_lss hs1_11 (A1.at 10 rfl rfl)) ?_
 refine lx_dec (fun hlt => ?_) (fun hlt => ?_)
 ·
  have hc2 := catL_len La Lb (j := i) (by omega)
  have hcb := catL_bd La Lb (i + 1)
  refine lx_nil ?_
  refine wk_seq ?_
  refine wk_cond_t rfl ?_
  refine wk_skip ?_
  refine wk_seq ?_
  refine wk_block ?_
  refine wk_seq ?_
  refine wk_region ?_
  refine lx_value (want rfl) (rn_index _ Tryz.underlying168 sz_39 (A1.at 9 rfl rfl) hs1_11 rfl (by omega)) ?_
  refine lx_value (want rfl) (rn_load1 ag_39 rfl (F1.cell (fun h => h) (two_sl hB (by omega : i < 2)))) ?_
  refine lx_value (want rfl) (as_slice rfl) ?_
  refine lx_nil ?_
  refine wk_seq ?_
  refine wk_region ?_
  refine lx_value (want rfl) (mv_int hs1_3) ?_
  refine lx_value (want rfl) (mv_slice rfl) ?_
  refine lx_value (want rfl) (rn_len Tryz.underlying39 rfl) ?_
  refine lx_value (want rfl) (rn_addN rfl rfl (by omega)) ?_
  refine lx_value (want rfl) (as_int rfl) ?_
  refine lx_nil ?_
  refine wk_seq ?_
  refine wk_region ?_
  refine lx_value (want rfl) (mv_int rfl) ?_
  refine lx_value (want rfl) (rn_lss rfl rfl) ?_
  refine lx_dec_f ((by omega)) ?_
  refine lx_nil ?_
  refine wk_cond_f rfl ?_
  refine wk_skip ?_
  refine wk_region ?_
  refine lx_value (want rfl) (rn_add hs1_11 rfl (by omega)) ?_
  refine lx_value (want rfl) (mv_int rfl) ?_
  refine lx_nil ?_
  exact ⟨rfl, (((((((((((((A1.up rfl _).up rfl _).up rfl _).up rfl _).up rfl _).up rfl _).up rfl _).up rfl _).up rfl _).up rfl _).up rfl _).up rfl _).up rfl _), EL1, _, (by omega), i + 1, rfl, rfl, (by rw [hc2]; exact rfl), by omega⟩
 ·
  refine lx_nil ?_
  refine wk_seq ?_
  refine wk_cond_f rfl ?_
  refine wk_exit ?_
  refine wk_seq ?_
  refine wk_region ?_
  refine lx_value (want rfl) (mv_int hs1_3) ?_
  refine lx_call (want rfl) (ent_func cf_105 (argsC (t_slice rfl) (argsC (t_int rfl) args0))) (growe_ct (catL La Lb i).length (by have := catL_bd La Lb i; omega) w1) ?_
  rintro _ w2 E1 ⟨sG, cG, rfl, hOG, hgG⟩
  have F2 := F1.ext E1
  have hz1 := E1.size
  have ge1 : ∀ k, ob sG k → w0.heap.size ≤ k := fun k hk => (by have := hgG k hk; omega)
  refine lx_value (want rfl) (as_slice rfl) ?_
  refine lx_nil ?_
  refine wk_seq ?_
  refine wk_seq ?_
  refine wk_region ?_
  refine lx_value (want rfl) (mv_slice (A1.at 0 rfl rfl)) ?_
  refine lx_value (want rfl) (rn_len Tryz.underlying168 rfl) ?_
  refine lx_value (want rfl) (mv_int rfl) ?_
  refine lx_nil ?_
  refine wk_block ?_
  refine wk_loopA [6, 8, 27, 28, 29, 30, 31, 32, 33, 34] (fun j => no j ∨ w0.heap.size ≤ j) (fun nM ρ w => ∃ (j : Nat) (so2_6 : Option Addr) (co2_6 : Nat), nM = 2 - j ∧ ρ 27 = .int .i64 j ∧ ρ 6 = .slice so2_6 ((catL La Lb j).length) co2_6 ∧ OwnS w 55 3 so2_6 ((catL La Lb j).length) co2_6 (catL us1 us2 j) ∧ (∀ k, ob so2_6 k → w0.heap.size ≤ k) ∧ (j ≤ 2)) _ ⟨0, sG, cG, rfl, rfl, rfl, hOG, ge1, by omega⟩ ?_
  rintro n2 ρ2 w3 A2 EL2 ⟨j, so2_6, co2_6, rfl, hs2_27, ho2_6, ow2L_6, ge2L_6, hj⟩
  have F3 := F2.wide EL2
  have hzL2 := EL2.size
  refine wk_seq ?_
  refine wk_region ?_
  refine lx_value (want rfl) (rn_lss hs2_27 (A2.at 26 rfl rfl)) ?_
  refine lx_dec (fun hlt2 => ?_) (fun hlt2 => ?_)
  ·
   have hc2 := catL_len La Lb (j := j) (by omega)
   have hcb := catL_bd La Lb (j + 1)
   have hco := catL_on us1 us2 (j := j) (by omega)
   refine lx_nil ?_
   refine wk_seq ?_
   refine wk_cond_t rfl ?_
   refine wk_skip ?_
   refine wk_seq ?_
   refine wk_block ?_
   refine wk_seq ?_
   refine wk_region ?_
   refine lx_value (want rfl) (rn_index j Tryz.underlying168 sz_39 (A2.at 25 rfl rfl) hs2_27 rfl (by omega)) ?_
   refine lx_value (want rfl) (rn_load1 ag_39 rfl (F3.cell (fun h => h) (two_sl hB (by omega : j < 2)))) ?_
   refine lx_value (want rfl) (as_slice rfl) ?_
   refine lx_nil ?_
   refine wk_region ?_
   refine lx_value (want rfl) (mv_slice ho2_6) ?_
   refine lx_value (want rfl) (mv_slice rfl) ?_
   refine lx_append 40 (want rfl) Tryz.underlying39 ti_55 (by decide) rfl (by decide) rfl rfl ow2L_6 (((two_src hSr1 hSr2 (by omega)).ext F3)) (by omega) ?_
   intro sq2 cq2 w4 AP2
   have EA2 := AP2.fr
   have ow2 := AP2.own
   have ge2 : ∀ k, ob sq2 k → w0.heap.size ≤ k := fun k hk => (AP2.blk k hk).elim (ge2L_6 k) (fun h => (Nat.le_trans F3.size h))
   have F4 := F3.new EA2 ge2L_6
   have hzA2 := EA2.size
   refine lx_value (want rfl) (as_slice rfl) ?_
   refine lx_nil ?_
   refine wk_region ?_
   refine lx_value (want rfl) (rn_add hs2_27 rfl (by omega)) ?_
   refine lx_value (want rfl) (mv_int rfl) ?_
   refine lx_nil ?_
   exact ⟨rfl, ((((((((((A2.up rfl _).up rfl _).up rfl _).up rfl _).up rfl _).up rfl _).up rfl _).up rfl _).up rfl _).up rfl _), Fr.between F2 F4 (by omega), _, (by omega), j + 1, sq2, cq2, rfl, rfl, (by rw [hc2]; exact rfl), (by rw [hc2, hco]; exact ow2), ge2, by omega⟩
  ·
   refine lx_nil ?_
   refine wk_seq ?_
   refine wk_cond_f rfl ?_
   refine wk_exit ?_
   refine wk_seq ?_
   refine wk_region ?_
   refine lx_value (want rfl) (mv_slice ho2_6) ?_
   refine lx_value (want rfl) (as_slice rfl) ?_
   refine lx_nil ?_
   refine wk_ret ?_
   refine retR1 Tryz.results63 (.tmp (t_slice rfl)) F3 ?_
   obtain rfl : j = 2 := by omega
   exact ⟨_, _, rfl, own_en (hR1.append hR2) F3 ow2L_6 (fun _ h => .inl h) (fun k hk => .inr (ge2L_6 k hk))⟩

theorem kopen_ct (l : List Sg) (sl : Option Addr) (cl : Nat) (F : Nat → Prop) (hc : ChkG l) (w0 : World) (hL : SgS F w0 sl l) :
  CT Tryz.prog 122 [.slice sl l.length cl] w0 no (fun v w => ∃ b, v = .pointer (some ⟨b, 0, none⟩) ∧ PrgO (With F w0.heap.size w.heap.size) w b l ∧ w0.heap.size ≤ b ∧ ∃ ba bs, Blk w b [.slice sl l.length cl, .map (some ba), .map (some bs)] 188 ∧ MapL w ba kS (atL l)) := by
 have hll := smallG_len hc.sm
 have F0 := Fr.refl no w0
 refine ct_body Tryz.func122 rfl Tryz.ntmps122 (Nat.le_of_ble_eq_true rfl) ?_
 refine wk_seq ?_
 refine wk_region ?_
 refine lx_value (want rfl) (as_pointer rfl) ?_
 refine lx_nil ?_
 refine wk_seq ?_
 refine wk_region ?_
 refine lx_value (want rfl) (mv_slice rfl) ?_
 refine lx_makeMapL kS (want rfl) ?_
 intro b1 w1 hb1 Eb1 B1
 have F1 := F0.ext Eb1
 have hzb1 := Eb1.size
 have hlb1 := B1.lt
 refine lx_call (want rfl) (ent_func cf_135 args0) (shapes_ct w1) ?_
 rintro _ w2 E1 ⟨bS, rfl, hBS, hbS⟩
 have F2 := F1.ext E1
 have hz1 := E1.size
 have hlbS := (hBS).lt
 refine lx_value (want rfl) (rn_build3 (t_slice rfl) (t_map rfl) (t_map rfl) (fun w => bd_188_0_1_2 _ _ _ _ _ w)) ?_
 refine lx_new (want rfl) (rn_box (t_agg rfl)) ?_
 intro b2 w3 hb2 Eb2 B2 hlb2
 have F3 := F2.ext Eb2
 have hzb2 := Eb2.size
 refine lx_value (want rfl) (as_pointer rfl) ?_
 refine lx_nil ?_
 refine wk_seq ?_
 refine wk_seq ?_
 refine wk_region ?_
 refine lx_value (want rfl) (mv_slice rfl) ?_
 refine lx_value (want rfl) (rn_len Tryz.underlying128 rfl) ?_
 refine lx_value (want rfl) (mv_int rfl) ?_
 refine lx_nil ?_
 refine wk_block ?_
 refine wk_loopA [4, 5, 13, 14, 15, 16, 17, 18, 19, 20, 21, 22, 23, 24, 25] (fun j => no j ∨ w0.heap.size ≤ j) (fun nM ρ w => ∃ (i : Nat), nM = l.length - i ∧ ρ 13 = .int .i64 i ∧ MapL w b1 kS ((atL l).take i) ∧ MapL w bS kU shL ∧ Blk w b2 (cellsOf B2) 188 ∧ (i ≤ l.length)) _ ⟨0, rfl, rfl, (by first | exact mapL_step hg ((B1.ext E1).ext Eb2) | exact ((B1.ext E1).ext Eb2)), (hBS.ext Eb2), B2, by omega⟩ ?_
 rintro n1 ρ1 w4 A1 EL1 ⟨i, rfl, hs1_13, BL1_1, BL1_40, BL1_2, hi⟩
 have F4 := F3.wide EL1
 have hzL1 := EL1.size
 refine wk_seq ?_
 refine wk_region ?_
 refine lx_value (want rfl) (rn_lss hs1_13 (A1.at 12 rfl rfl)) ?_
 refine lx_dec (fun hlt => ?_) (fun hlt => ?_)
 ·
  obtain ⟨g, hg⟩ := getx hlt
  obtain ⟨bx, ox, hsx, hFx, ss, cs, si, ci, hcx, hst, hins, hroom⟩ := hL i g hg
  subst hsx
  refine lx_nil ?_
  refine wk_seq ?_
  refine wk_cond_t rfl ?_
  refine wk_skip ?_
  refine wk_seq ?_
  refine wk_block ?_
  refine wk_seq ?_
  refine wk_region ?_
  refine lx_value (want rfl) (mv_int hs1_13) ?_
  refine lx_value (want rfl) (rn_index _ Tryz.underlying128 sz_181 (A1.at 11 rfl rfl) hs1_13 rfl (by omega)) ?_
  refine lx_value (want rfl) (rn_loadN ag_181 sz_181 rfl rfl (hcx.fr F4 (fun h => h))) ?_
  refine lx_new (want rfl) (rn_alloc ze_181) ?_
  intro b3 w5 hb3 Eb3 B3 hlb3
  have F5 := F4.ext Eb3
  have hzb3 := Eb3.size
  refine lx_value (want rfl) (as_int rfl) ?_
  refine lx_set (want rfl) sz_181 rfl (t_agg rfl) rfl rfl rfl B3 (Nat.le_of_ble_eq_true rfl) ?_
  intro w6 Es1 Bs1
  have F6 := F5.set Es1 (by omega)
  have hzs1 := Es1.size
  refine lx_nil ?_
  refine wk_mix 7 (fun _ => .none) (by kernel_rfl) (by kernel_rfl) (fun kS G hk => by cases hk) (fun kS s y G hk => by cases hk) ?_
  simp only [List.take_succ_cons, List.take_zero, List.take_nil, List.drop_succ_cons, List.drop_zero, List.drop_nil]
  refine mx_calm rfl (want rfl) (fun u1 eu1 fu1 => mv_pointer (A1.at 3 rfl rfl)) ?_
  refine mx_calm rfl (want rfl) (fun u2 eu2 fu2 => rn_nilCheck rfl) ?_
  refine mx_calm rfl (want rfl) (fun u3 eu3 fu3 => rn_fieldAddr fa_188_1 rfl) ?_
  refine mx_calm rfl (want rfl) (fun u4 eu4 fu4 => rn_load1Blk ag_185 rfl (((BL1_2.ext Eb3).ne Es1 (by omega)).ext ((ext_drawn _).trans' eu4)) rfl) ?_
  refine mx_calm rfl (want rfl) (fun u5 eu5 fu5 => rn_fieldAddr fa_181_0 rfl) ?_
  refine mx_calm rfl (want rfl) (fun u6 eu6 fu6 => rn_load1Blk ag_9 rfl (Bs1.ext ((ext_drawn _).trans' eu6)) rfl) ?_
  refine mx_calm rfl (want rfl) (fun u7 eu7 fu7 => mv_int rfl) ?_
  refine mx_nil (fun w7 E2' H1 HS => ?_)
  have E2 := (ext_drawn _).trans' E2'
  have F7 := F6.ext E2
  have hz2 := E2.size
  refine lx_updL (want rfl) mv_185.g rfl (show _ = kS g.nm from rfl) (t_int rfl) (((BL1_1.ext Eb3).ne Es1 (by omega)).ext E2) (atL_new hc.dist hg) ?_
  intro w8 Em1 HMEm1
  have F8 := F7.set Em1 (by omega)
  have hzm1 := Em1.size
  refine lx_nil ?_
  refine wk_region ?_
  refine lx_value (want rfl) (rn_add hs1_13 rfl (by omega)) ?_
  refine lx_value (want rfl) (mv_int rfl) ?_
  refine lx_nil ?_
  exact ⟨rfl, (((((((((((((((((A1.up rfl _).up rfl _).up rfl _).up rfl _).up rfl _).up rfl _).none _).up rfl _).up rfl _).up rfl _).up rfl _).up rfl _).up rfl _).up rfl _).none _).up rfl _).up rfl _), Fr.between F3 F8 (by omega), _, (by omega), i + 1, rfl, rfl, (by first | exact mapL_step hg HMEm1 | exact HMEm1), ((((BL1_40.ext Eb3).ne Es1 (by omega)).ext E2).ne Em1 (by omega)), ((((BL1_2.ext Eb3).ne Es1 (by omega)).ext E2).ne Em1 (by omega)), by omega⟩
 ·
  refine lx_nil ?_
  refine wk_seq ?_
  refine wk_cond_f rfl ?_
  refine wk_exit ?_
  refine wk_seq ?_
  refine wk_region ?_
  refine lx_value (want rfl) (mv_pointer (A1.at 3 rfl rfl)) ?_
  refine lx_value (want rfl) (as_pointer rfl) ?_
  refine lx_nil ?_
  refine wk_ret ?_
  refine retR1 Tryz.results122 (.tmp (t_pointer rfl)) F4 ?_
  have hlb2 := (BL1_2).lt; have hlb40 := (BL1_40).lt; have hlb1 := (BL1_1).lt
  exact ⟨b2, rfl, ⟨sl, cl, b1, bS, BL1_2, mapL_all hlt BL1_1, BL1_40, (sg_wide (fun _ h => .inl h) hL).fr (sg_stab _) F4 (fun _ _ h => h), .inr ⟨by omega, by omega⟩, .inr ⟨by omega, by omega⟩, .inr ⟨by omega, by omega⟩⟩, by omega, b1, bS, BL1_2, mapL_all hlt BL1_1⟩

theorem points_ct (l : List Ent) (s : Option Addr) (c : Nat) (F : Nat → Prop) (hb : l.length ≤ 2000) (w0 : World) (hl : EnS F w0 s l) :
  CT Tryz.prog 69 [.slice s l.length c] w0 no (fun v w => ∃ s' c', v = .slice s' (ptsL l).length c' ∧ DsS (fun _ => True) w s' (ptsL l)) := by
 have F0 := Fr.refl no w0
 refine ct_body Tryz.func69 rfl Tryz.ntmps69 (Nat.le_of_ble_eq_true rfl) ?_
 refine wk_seq ?_
 refine wk_region ?_
 refine lx_value (want rfl) (as_slice rfl) ?_
 refine lx_nil ?_
 refine wk_seq ?_
 refine wk_seq ?_
 refine wk_region ?_
 refine lx_value (want rfl) (mv_slice rfl) ?_
 refine lx_value (want rfl) (rn_len Tryz.underlying39 rfl) ?_
 refine lx_value (want rfl) (mv_int rfl) ?_
 refine lx_nil ?_
 refine wk_block ?_
 refine wk_loopA [2, 4, 7, 8, 9, 10, 11, 12, 13, 14, 15, 16] (fun j => no j ∨ w0.heap.size ≤ j) (fun nM ρ w => ∃ (i : Nat) (so1_1 : Option Addr) (co1_1 : Nat), nM = l.length - i ∧ ρ 7 = .int .i64 i ∧ ρ 2 = .slice so1_1 (i) co1_1 ∧ OwnS w 23 2 so1_1 (i) co1_1 ((ptsL (l.take i)).flatMap dsC) ∧ (∀ k, ob so1_1 k → w0.heap.size ≤ k) ∧ (i ≤ l.length)) _ ⟨0, none, 0, rfl, rfl, rfl, (OwnS.nil w0 23 2), (fun _ h => ob_none h), by omega⟩ ?_
 rintro n1 ρ1 w1 A1 EL1 ⟨i, so1_1, co1_1, rfl, hs1_7, ho1_1, ow1L_1, ge1L_1, hi⟩
 have F1 := F0.wide EL1
 have hzL1 := EL1.size
 refine wk_seq ?_
 refine wk_region ?_
 refine lx_value (want rfl) (rn_lss hs1_7 (A1.at 6 rfl rfl)) ?_
 refine lx_dec (fun hlt => ?_) (fun hlt => ?_)
 ·
  obtain ⟨x, hx⟩ := getx hlt
  obtain ⟨bx, ox, hsx, _, sx, cx, hcx, hpx⟩ := hl i x hx
  subst hsx
  refine lx_nil ?_
  refine wk_seq ?_
  refine wk_cond_t rfl ?_
  refine wk_skip ?_
  refine wk_seq ?_
  refine wk_block ?_
  refine wk_seq ?_
  refine wk_region ?_
  refine lx_value (want rfl) (rn_index _ Tryz.underlying39 sz_55 (A1.at 5 rfl rfl) hs1_7 rfl (by omega)) ?_
  refine lx_value (want rfl) (rn_loadN ag_55 sz_55 rfl rfl (hcx.fr F1 (fun h => h))) ?_
  refine lx_new (want rfl) (rn_alloc ze_55) ?_
  intro b1 w2 hb1 Eb1 B1 hlb1
  have F2 := F1.ext Eb1
  have hzb1 := Eb1.size
  have nb1 : ∀ k, ob so1_1 k → k ≠ b1 := fun k hk => by have := (ow1L_1).lt hk; omega
  refine lx_set (want rfl) sz_55 rfl (t_agg rfl) rfl rfl rfl B1 (Nat.le_of_ble_eq_true rfl) ?_
  intro w3 Es1 Bs1
  have F3 := F2.set Es1 (by omega)
  have hzs1 := Es1.size
  refine lx_nil ?_
  refine wk_region ?_
  refine lx_value (want rfl) (mv_slice ho1_1) ?_
  refine lx_value (want rfl) (rn_loadBlk ag_55 sz_55 rfl Bs1 rfl rfl) ?_
  refine lx_call (want rfl) (ent_func cf_48 (argsC (t_agg rfl) args0)) (point_ct x sx cx w3) ?_
  rintro _ w4 E1 rfl
  have F4 := F3.ext E1
  have hz1 := E1.size
  refine lx_newS (want rfl) (rn_bslice (xs := [.tmp 13]) Tryz.underlying40 sz_23 ze_23 rfl (argsC (t_agg rfl) args0) (CL.cons rfl rfl CL.nil) rfl (Nat.le_of_ble_eq_true rfl)) ?_
  intro b2 w5 hb2 Eb2 B2 hlb2
  have F5 := F4.ext Eb2
  have hzb2 := Eb2.size
  have nb2 : ∀ k, ob so1_1 k → k ≠ b2 := fun k hk => by have := (ow1L_1).lt hk; omega
  refine lx_append 16 (want rfl) Tryz.underlying40 ti_23 (by decide) rfl (by decide) rfl rfl ((((ow1L_1.ext Eb1).ne Es1 (fun h => nb1 _ h rfl)).ext E1).ext Eb2) ((Src.blk B2 rfl rfl)) (by omega) ?_
  intro sq2 cq2 w6 AP2
  have EA2 := AP2.fr
  have ow2 := AP2.own
  have ge2 : ∀ k, ob sq2 k → w0.heap.size ≤ k := fun k hk => (AP2.blk k hk).elim (ge1L_1 k) (fun h => (Nat.le_trans F5.size h))
  have ne2_1 : ∀ k, ob sq2 k → k ≠ b1 := fun k hk => (AP2.blk k hk).elim (nb1 k) (fun h => by have := (((Bs1.ext E1).ext Eb2)).lt; omega)
  have ne2_2 : ∀ k, ob sq2 k → k ≠ b2 := fun k hk => (AP2.blk k hk).elim (nb2 k) (fun h => by have := (B2).lt; omega)
  have F6 := F5.new EA2 ge1L_1
  have hzA2 := EA2.size
  have BA2_1 := ((Bs1.ext E1).ext Eb2).fr EA2 (fun h => nb1 _ h rfl)
  have BA2_2 := B2.fr EA2 (fun h => nb2 _ h rfl)
  refine lx_value (want rfl) (as_slice rfl) ?_
  refine lx_nil ?_
  refine wk_region ?_
  refine lx_value (want rfl) (rn_add hs1_7 rfl (by omega)) ?_
  refine lx_value (want rfl) (mv_int rfl) ?_
  refine lx_nil ?_
  exact ⟨rfl, (((((((((((((A1.up rfl _).up rfl _).up rfl _).up rfl _).none _).up rfl _).up rfl _).up rfl _).up rfl _).up rfl _).up rfl _).up rfl _).up rfl _), Fr.between F0 F6 (by omega), _, (by omega), i + 1, sq2, cq2, rfl, rfl, rfl, (by rw [← ptsL_step hx]; exact ow2), ge2, by omega⟩
 ·
  refine lx_nil ?_
  refine wk_seq ?_
  refine wk_cond_f rfl ?_
  refine wk_exit ?_
  refine wk_seq ?_
  refine wk_region ?_
  refine lx_value (want rfl) (mv_slice ho1_1) ?_
  refine lx_value (want rfl) (as_slice rfl) ?_
  refine lx_nil ?_
  refine wk_ret ?_
  refine retR1 Tryz.results69 (.tmp (t_slice rfl)) F1 ?_
  have hlen : (ptsL l).length = l.length := List.length_map _; obtain rfl : i = l.length := by omega
  exact ⟨_, _, by rw [hlen], by have h := ow1L_1; rw [List.take_length, ← hlen] at h; exact h.sl (by decide) rfl (fun _ _ => rfl) (fun _ _ => trivial)⟩

theorem eqtail_ct (a : List Ins) (b : List (Int × Int)) (sa sb : Option Addr) (ca cb : Nat) (Fa Fb : Nat → Prop) (hab : eqTail a b = true) (hal : a.length ≤ 1000) (w0 : World) (ha : InS Fa w0 sa a) (hb : PlS Fb w0 sb b) :
  CT Tryz.prog 143 [.slice sa a.length ca, .slice sb b.length cb, .func (.func 145) #[] #[]] w0 no (fun v _ => v = .bool true) := by
 have hlab := eqTail_len hab
 have F0 := Fr.refl no w0
 refine ct_body Tryz.func143 rfl Tryz.ntmps143 (Nat.le_of_ble_eq_true rfl) ?_
 refine wk_seq ?_
 refine wk_region ?_
 refine lx_value (want rfl) (as_bool rfl) ?_
 refine lx_nil ?_
 refine wk_seq ?_
 refine wk_seq ?_
 refine wk_region ?_
 refine lx_value (want rfl) (mv_slice rfl) ?_
 refine lx_value (want rfl) (rn_len Tryz.underlying33 rfl) ?_
 refine lx_value (want rfl) (mv_slice rfl) ?_
 refine lx_value (want rfl) (rn_len Tryz.underlying207 rfl) ?_
 refine lx_value (want rfl) (rn_neq rfl rfl) ?_
 refine lx_dec_f ((by omega)) ?_
 refine lx_nil ?_
 refine wk_cond_f rfl ?_
 refine wk_skip ?_
 refine wk_seq ?_
 refine wk_seq ?_
 refine wk_region ?_
 refine lx_value (want rfl) (mv_slice rfl) ?_
 refine lx_value (want rfl) (rn_len Tryz.underlying33 rfl) ?_
 refine lx_value (want rfl) (mv_int rfl) ?_
 refine lx_nil ?_
 refine wk_block ?_
 refine wk_loopA [6, 7, 8, 9, 17, 18, 19, 20, 21, 22, 23, 24, 25, 26, 27, 28, 29, 30, 31] no (fun nM ρ w => ∃ (i : Nat), nM = a.length - i ∧ ρ 17 = .int .i64 i ∧ (i ≤ a.length)) _ ⟨0, rfl, rfl, by omega⟩ ?_
 rintro n1 ρ1 w1 A1 EL1 ⟨i, rfl, hs1_17, hi⟩
 have F1 := F0.ext EL1
 have hzL1 := EL1.size
 refine wk_seq ?_
 refine wk_region ?_
 refine lx_value (want rfl) (rn_lss hs1_17 (A1.at 16 rfl rfl)) ?_
 refine lx_dec (fun hlt => ?_) (fun hlt => ?_)
 ·
  obtain ⟨x, hx⟩ := getx hlt
  obtain ⟨hy, hnm⟩ := eqTail_at hab hx
  obtain ⟨bx, ox, rfl, _, so, co, hcx, hco⟩ := ha i x hx
  obtain ⟨by_, oy, rfl, _, hcy⟩ := hb i _ hy
  refine lx_nil ?_
  refine wk_seq ?_
  refine wk_cond_t rfl ?_
  refine wk_skip ?_
  refine wk_seq ?_
  refine wk_block ?_
  refine wk_seq ?_
  refine wk_region ?_
  refine lx_value (want rfl) (mv_int hs1_17) ?_
  refine lx_value (want rfl) (rn_index _ Tryz.underlying33 sz_73 (A1.at 15 rfl rfl) hs1_17 rfl (by omega)) ?_
  refine lx_value (want rfl) (rn_loadN ag_73 sz_73 rfl rfl (hcx.fr F1 (fun h => h))) ?_
  refine lx_new (want rfl) (rn_alloc ze_73) ?_
  intro b1 w2 hb1 Eb1 B1 hlb1
  have F2 := F1.ext Eb1
  have hzb1 := Eb1.size
  refine lx_value (want rfl) (as_int rfl) ?_
  refine lx_set (want rfl) sz_73 rfl (t_agg rfl) rfl rfl rfl B1 (Nat.le_of_ble_eq_true rfl) ?_
  intro w3 Es1 Bs1
  have F3 := F2.set Es1 (by omega)
  have hzs1 := Es1.size
  refine lx_nil ?_
  refine wk_seq ?_
  refine wk_region ?_
  refine lx_value (want rfl) (mv_slice (A1.at 1 rfl rfl)) ?_
  refine lx_value (want rfl) (mv_int rfl) ?_
  refine lx_value (want rfl) (rn_index _ Tryz.underlying207 sz_209 rfl rfl rfl (by omega)) ?_
  refine lx_value (want rfl) (rn_load2 ag_209 sz_209 rfl (F3.cell (fun h => h) (hcy 0 _ rfl)) (F3.cell (fun h => h) (hcy 1 _ rfl))) ?_
  refine lx_new (want rfl) (rn_alloc ze_209) ?_
  intro b2 w4 hb2 Eb2 B2 hlb2
  have F4 := F3.ext Eb2
  have hzb2 := Eb2.size
  refine lx_set (want rfl) sz_209 rfl (t_agg rfl) rfl rfl rfl B2 (Nat.le_of_ble_eq_true rfl) ?_
  intro w5 Es2 Bs2
  have F5 := F4.set Es2 (by omega)
  have hzs2 := Es2.size
  refine lx_nil ?_
  refine wk_seq ?_
  refine wk_region ?_
  refine lx_value (want rfl) (mv_func (A1.at 2 rfl rfl)) ?_
  refine lx_value (want rfl) (rn_loadBlk ag_73 sz_73 rfl ((Bs1.ext Eb2).ne Es2 (by omega)) rfl rfl) ?_
  refine lx_value (want rfl) (rn_loadBlk ag_209 sz_209 rfl Bs2 rfl rfl) ?_
  refine lx_call (want rfl) (ent_value cf_145 rfl (argsC (t_agg rfl) (argsC (t_agg rfl) args0))) (shaped1_ct x so co (x.op, x.n) hnm rfl rfl w5) ?_
  rintro _ w6 E1 rfl
  have F6 := F5.ext E1
  have hz1 := E1.size
  refine lx_value (want rfl) (rn_not rfl) ?_
  refine lx_nil ?_
  refine wk_cond_f rfl ?_
  refine wk_skip ?_
  refine wk_region ?_
  refine lx_value (want rfl) (rn_add hs1_17 rfl (by omega)) ?_
  refine lx_value (want rfl) (mv_int rfl) ?_
  refine lx_nil ?_
  exact ⟨rfl, ((((((((((((((((((((A1.up rfl _).up rfl _).up rfl _).up rfl _).up rfl _).up rfl _).none _).up rfl _).up rfl _).up rfl _).up rfl _).up rfl _).none _).up rfl _).up rfl _).up rfl _).up rfl _).up rfl _).up rfl _).up rfl _), (Fr.ext (Fr.trans (Fr.ext (Fr.trans (Fr.ext EL1 Eb1) Es1 (fun i hi1 h => (absurd hi1 (by omega)))) Eb2) Es2 (fun i hi1 h => (absurd hi1 (by omega)))) E1), _, (by omega), i + 1, rfl, rfl, by omega⟩
 ·
  refine lx_nil ?_
  refine wk_seq ?_
  refine wk_cond_f rfl ?_
  refine wk_exit ?_
  refine wk_seq ?_
  refine wk_region ?_
  refine lx_value (want rfl) (as_bool rfl) ?_
  refine lx_nil ?_
  refine wk_ret ?_
  refine retR1 Tryz.results143 (.tmp (t_bool rfl)) F1 ?_
  exact rfl

end Go.Proofs.YtgnnegfnpgnbbaaGreatDoor

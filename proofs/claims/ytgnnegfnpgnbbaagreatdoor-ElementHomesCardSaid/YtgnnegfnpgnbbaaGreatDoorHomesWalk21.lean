/- What functions compute: start, begin, executea, ports, executeb. -/
import Derived.Test.YtgnnegfnpgnbbaaGreatDoorHomesFacts
import Derived.Test.YtgnnegfnpgnbbaaGreatDoorHomesPre
import Derived.Test.YtgnnegfnpgnbbaaGreatDoorHomesWalk10
import Derived.Test.YtgnnegfnpgnbbaaGreatDoorHomesWalk11
import Derived.Test.YtgnnegfnpgnbbaaGreatDoorHomesWalk15
import Derived.Test.YtgnnegfnpgnbbaaGreatDoorHomesWalk16
import Derived.Test.YtgnnegfnpgnbbaaGreatDoorHomesWalk20
import Derived.Test.YtgnnegfnpgnbbaaGreatDoorHomesWalk3
import Derived.Test.YtgnnegfnpgnbbaaGreatDoorHomesWalk4
import Derived.Test.YtgnnegfnpgnbbaaGreatDoorHomesWalk5
import Derived.Test.YtgnnegfnpgnbbaaGreatDoorHomesWalk8
set_option maxRecDepth 100000
set_option linter.unusedVariables false
set_option linter.unusedSimpArgs false
namespace Go.Proofs.YtgnnegfnpgnbbaaGreatDoor
open Go Go.RowKit Go.Mix Go.Eng
set_option maxRecDepth 100000 in
theorem start_ct (SS : Sto) (sa : Option Addr) (ca : Nat) (sb : Option Addr) (cb : Nat) (F : Nat → Prop) (hok : OkS SS) (ctx : Int) (v : Vl) (x : Slt) (ds : List Ds) (hx : SS.slots[0]? = some x) (hds : x.st[1]? = some ds) (hctx : 0 ≤ ctx ∧ ctx ≤ 399) (hdl : ds.length ≤ 1000) (hs : (tkL ctx v ds).all (sentB SS) = true) (w0 : World) (hS : StR F w0 SS sa ca sb cb) :
  CT Tryz.prog 17 [.agg #[.slice sa SS.slots.length ca, .slice sb SS.code.length cb], .agg #[.int .i64 ctx, .int .i64 1], vlV v] w0 no (fun u w => ∃ s c, u = .tuple #[.slice s (tkL ctx v ds).length c, .int .i64 0] ∧ TkS (fun k => w0.heap.size ≤ k) w s (tkL ctx v ds)) := by
 have hsl := smallS_len hok.sm
 have hS0 := hS
 obtain ⟨bx, ox, hsx, _, ss, cs, hcx, hst⟩ := hS.slots 0 x hx
 subst hsx
 obtain ⟨bd, od, hsd, hFd, sd, cd, hcd, hdd⟩ := hst 1 ds hds
 subst hsd
 have hl0 := (List.getElem?_eq_some_iff.1 hx).1
 have hl1 := (List.getElem?_eq_some_iff.1 hds).1
 have htl := tkL_len ctx v ds
 have F0 := Fr.refl no w0
 refine ct_body Tryz.func17 rfl Tryz.ntmps17 (Nat.le_of_ble_eq_true rfl) ?_
 refine wk_seq ?_
 refine wk_region ?_
 refine lx_new (want rfl) (rn_box (t_agg rfl)) ?_
 intro b1 w1 hb1 Eb1 B1 hlb1
 have F1 := F0.ext Eb1
 have hzb1 := Eb1.size
 refine lx_new (want rfl) (rn_box (t_agg rfl)) ?_
 intro b2 w2 hb2 Eb2 B2 hlb2
 have F2 := F1.ext Eb2
 have hzb2 := Eb2.size
 refine lx_new (want rfl) (rn_box (t_agg rfl)) ?_
 intro b3 w3 hb3 Eb3 B3 hlb3
 have F3 := F2.ext Eb3
 have hzb3 := Eb3.size
 refine lx_value (want rfl) (as_slice rfl) ?_
 refine lx_value (want rfl) (as_int rfl) ?_
 refine lx_nil ?_
 refine wk_seq ?_
 refine wk_region ?_
 refine lx_value (want rfl) (rn_loadBlk ag_35 sz_35 rfl ((B1.ext Eb2).ext Eb3) rfl rfl) ?_
 refine lx_call (want rfl) (ent_func cf_23 (argsC (t_agg rfl) args0)) (eopen_ct SS _ ca sb cb F hok w3 (hS0.fr F3 (fun _ _ h => h))) ?_
 rintro _ w4 E1 rfl
 have F4 := F3.ext E1
 have hz1 := E1.size
 refine lx_value (want rfl) (mv_tuple rfl) ?_
 refine lx_value (want rfl) (rn_extract rfl rfl) ?_
 refine lx_value (want rfl) (rn_extract rfl rfl) ?_
 refine lx_new (want rfl) (rn_alloc ze_80) ?_
 intro b4 w5 hb4 Eb4 B4 hlb4
 have F5 := F4.ext Eb4
 have hzb4 := Eb4.size
 refine lx_set (want rfl) sz_80 rfl (t_agg rfl) rfl rfl rfl B4 (Nat.le_of_ble_eq_true rfl) ?_
 intro w6 Es1 Bs1
 have F6 := F5.set Es1 (by omega)
 have hzs1 := Es1.size
 refine lx_value (want rfl) (as_int rfl) ?_
 refine lx_nil ?_
 refine wk_seq ?_
 refine wk_seq ?_
 refine wk_region ?_
 refine lx_value (want rfl) (mv_int rfl) ?_
 refine lx_value (want rfl) (rn_neq rfl rfl) ?_
 refine lx_dec_f ((fun g => g rfl)) ?_
 refine lx_nil ?_
 refine wk_cond_f rfl ?_
 refine wk_skip ?_
 refine wk_seq ?_
 refine wk_mix 7 (fun _ => .none) (by kernel_rfl) (by kernel_rfl) (fun kS G hk => by cases hk) (fun kS s y G hk => by cases hk) ?_
 simp only [List.take_succ_cons, List.take_zero, List.take_nil, List.drop_succ_cons, List.drop_zero, List.drop_nil]
 refine mx_calm rfl (want rfl) (fun u1 eu1 fu1 => rn_fieldAddr fa_23_1 rfl) ?_
 refine mx_calm rfl (want rfl) (fun u2 eu2 fu2 => rn_load1Blk ag_3 rfl (((((B2.ext Eb3).ext E1).ext Eb4).ne Es1 (by omega)).ext ((ext_drawn _).trans' eu2)) rfl) ?_
 refine mx_calm rfl (want rfl) (fun u3 eu3 fu3 => rn_quo rfl rfl (by omega)) ?_
 refine mx_calm rfl (want rfl) (fun u4 eu4 fu4 => rn_fieldAddr fa_23_1 rfl) ?_
 refine mx_calm rfl (want rfl) (fun u5 eu5 fu5 => rn_load1Blk ag_3 rfl (((((B2.ext Eb3).ext E1).ext Eb4).ne Es1 (by omega)).ext ((ext_drawn _).trans' eu5)) rfl) ?_
 refine mx_calm rfl (want rfl) (fun u6 eu6 fu6 => rn_rem rfl rfl (by omega)) ?_
 refine mx_calm rfl (want rfl) (fun u7 eu7 fu7 => as_int rfl) ?_
 refine mx_nil (fun w7 E2' H1 HS => ?_)
 have E2 := (ext_drawn _).trans' E2'
 have F7 := F6.ext E2
 have hz2 := E2.size
 refine lx_value (want rfl) (as_int rfl) ?_
 refine lx_nil ?_
 refine wk_seq ?_
 refine wk_seq ?_
 refine wk_region ?_
 refine lx_value (want rfl) (rn_fieldAddr fa_23_0 rfl) ?_
 refine lx_value (want rfl) (rn_load1Blk ag_3 rfl (((((B2.ext Eb3).ext E1).ext Eb4).ne Es1 (by omega)).ext E2) rfl) ?_
 refine lx_call (want rfl) (ent_func cf_8 (argsC (t_int rfl) args0)) (isctx_ct _ w7) ?_
 rintro _ w8 E3 rfl
 have F8 := F7.ext E3
 have hz3 := E3.size
 refine lx_b_t ((decide_eq_true hctx)) ?_
 refine lx_value (want rfl) (rn_not rfl) ?_
 refine lx_value (want rfl) (mv_bool rfl) ?_
 refine lx_value (want_if (j := 4) (d := 31) (x := false) (y := false) rfl rfl (by decide) rfl) (rn_fieldAddr fa_23_1 rfl) ?_
 refine lx_value (want_if (j := 4) (d := 31) (x := false) (y := false) rfl rfl (by decide) rfl) (rn_load1Blk ag_3 rfl ((((((B2.ext Eb3).ext E1).ext Eb4).ne Es1 (by omega)).ext E2).ext E3) rfl) ?_
 refine lx_value (want_if (j := 4) (d := 31) (x := false) (y := false) rfl rfl (by decide) rfl) (rn_lss rfl rfl) ?_
 refine lx_dec_f ((by decide)) ?_
 refine lx_value (want rfl) (pick_f rfl rfl) ?_
 refine lx_value (want rfl) (mv_bool rfl) ?_
 refine lx_value (want_if (j := 9) (d := 36) (x := false) (y := false) rfl rfl (by decide) rfl) (mv_int rfl) ?_
 refine lx_value (want_if (j := 9) (d := 36) (x := false) (y := false) rfl rfl (by decide) rfl) (rn_fieldAddr fa_80_0 rfl) ?_
 refine lx_value (want_if (j := 9) (d := 36) (x := false) (y := false) rfl rfl (by decide) rfl) (rn_fieldAddr fa_35_0 rfl) ?_
 refine lx_value (want_if (j := 9) (d := 36) (x := false) (y := false) rfl rfl (by decide) rfl) (rn_load1Blk ag_32 rfl ((Bs1.ext E2).ext E3) rfl) ?_
 refine lx_value (want_if (j := 9) (d := 36) (x := false) (y := false) rfl rfl (by decide) rfl) (rn_len Tryz.underlying32 rfl) ?_
 refine lx_value (want_if (j := 9) (d := 36) (x := false) (y := false) rfl rfl (by decide) rfl) (rn_geq rfl rfl) ?_
 refine lx_dec_f ((by omega)) ?_
 refine lx_value (want rfl) (pick_f rfl rfl) ?_
 refine lx_value (want rfl) (mv_bool rfl) ?_
 refine lx_value (want_if (j := 17) (d := 44) (x := false) (y := false) rfl rfl (by decide) rfl) (mv_int rfl) ?_
 refine lx_value (want_if (j := 17) (d := 44) (x := false) (y := false) rfl rfl (by decide) rfl) (rn_fieldAddr fa_80_0 rfl) ?_
 refine lx_value (want_if (j := 17) (d := 44) (x := false) (y := false) rfl rfl (by decide) rfl) (rn_fieldAddr fa_35_0 rfl) ?_
 refine lx_value (want_if (j := 17) (d := 44) (x := false) (y := false) rfl rfl (by decide) rfl) (rn_load1Blk ag_32 rfl ((Bs1.ext E2).ext E3) rfl) ?_
 refine lx_value (want_if (j := 17) (d := 44) (x := false) (y := false) rfl rfl (by decide) rfl) (mv_int rfl) ?_
 refine lx_value (want_if (j := 17) (d := 44) (x := false) (y := false) rfl rfl (by decide) rfl) (rn_index 0 Tryz.underlying32 sz_78 rfl rfl (by decide) hl0) ?_
 refine lx_value (want_if (j := 17) (d := 44) (x := false) (y := false) rfl rfl (by decide) rfl) (rn_fieldAddr fa_78_5 rfl) ?_
 refine lx_value (want_if (j := 17) (d := 44) (x := false) (y := false) rfl rfl (by decide) rfl) (rn_load1 ag_71 rfl (F8.cell (fun h => h) (hcx 5 _ rfl))) ?_
 refine lx_value (want_if (j := 17) (d := 44) (x := false) (y := false) rfl rfl (by decide) rfl) (rn_len Tryz.underlying71 rfl) ?_
 refine lx_value (want_if (j := 17) (d := 44) (x := false) (y := false) rfl rfl (by decide) rfl) (rn_geq rfl rfl) ?_
 refine lx_dec_f ((by omega)) ?_
 refine lx_value (want rfl) (pick_f rfl rfl) ?_
 refine lx_nil ?_
 refine wk_cond_f rfl ?_
 refine wk_skip ?_
 refine wk_seq ?_
 refine wk_seq ?_
 refine wk_region ?_
 refine lx_value (want rfl) (rn_fieldAddr fa_80_0 rfl) ?_
 refine lx_value (want rfl) (rn_fieldAddr fa_35_0 rfl) ?_
 refine lx_value (want rfl) (rn_load1Blk ag_32 rfl ((Bs1.ext E2).ext E3) rfl) ?_
 refine lx_value (want rfl) (mv_int rfl) ?_
 refine lx_value (want rfl) (rn_index 0 Tryz.underlying32 sz_78 rfl rfl (by decide) hl0) ?_
 refine lx_value (want rfl) (rn_fieldAddr fa_78_5 rfl) ?_
 refine lx_value (want rfl) (rn_load1 ag_71 rfl (F8.cell (fun h => h) (hcx 5 _ rfl))) ?_
 refine lx_value (want rfl) (mv_int rfl) ?_
 refine lx_value (want rfl) (rn_index 1 Tryz.underlying71 sz_76 rfl rfl (by decide) hl1) ?_
 refine lx_value (want rfl) (rn_load1 ag_76 rfl (F8.cell (fun h => h) hcd)) ?_
 refine lx_value (want rfl) (rn_len Tryz.underlying76 rfl) ?_
 refine lx_value (want rfl) (mv_int rfl) ?_
 refine lx_nil ?_
 refine wk_block ?_
 refine wk_loopA [6, 12, 67, 68, 69, 70, 71, 72, 73, 74, 75, 76, 77, 78, 79, 80, 81, 82] (fun j => no j ∨ w0.heap.size ≤ j) (fun nM ρ w => ∃ (j : Nat) (so1_1 : Option Addr) (co1_1 : Nat), nM = ds.length - j ∧ ρ 67 = .int .i64 j ∧ Blk w b1 (cellsOf B1) 35 ∧ Blk w b2 (cellsOf B2) 23 ∧ Blk w b3 (cellsOf B3) 48 ∧ Blk w b4 (cellsOf Bs1) 80 ∧ ρ 6 = .slice so1_1 (j) co1_1 ∧ OwnS w 51 5 so1_1 (j) co1_1 ((tkL ctx v (ds.take j)).flatMap tkC) ∧ (∀ k, ob so1_1 k → w0.heap.size ≤ k) ∧ (∀ k, ob so1_1 k → k ≠ b1) ∧ (∀ k, ob so1_1 k → k ≠ b2) ∧ (∀ k, ob so1_1 k → k ≠ b3) ∧ (∀ k, ob so1_1 k → k ≠ b4) ∧ (j ≤ ds.length)) _ ⟨0, none, 0, rfl, rfl, (((((((B1.ext Eb2).ext Eb3).ext E1).ext Eb4).ne Es1 (by omega)).ext E2).ext E3), ((((((B2.ext Eb3).ext E1).ext Eb4).ne Es1 (by omega)).ext E2).ext E3), (((((B3.ext E1).ext Eb4).ne Es1 (by omega)).ext E2).ext E3), ((Bs1.ext E2).ext E3), rfl, ((((((OwnS.nil w3 51 5).ext E1).ext Eb4).ne Es1 (fun h => (ob_none h : False))).ext E2).ext E3), (fun _ h => ob_none h), (fun _ h => ob_none h), (fun _ h => ob_none h), (fun _ h => ob_none h), (fun _ h => ob_none h), by omega⟩ ?_
 rintro n1 ρ1 w9 A1 EL1 ⟨j, so1_1, co1_1, rfl, hs1_67, BL1_1, BL1_2, BL1_3, BL1_4, ho1_1, ow1L_1, ge1L_1, ne1L_1_1, ne1L_1_2, ne1L_1_3, ne1L_1_4, hj⟩
 have F9 := F8.wide EL1
 have hzL1 := EL1.size
 refine wk_seq ?_
 refine wk_region ?_
 refine lx_value (want rfl) (rn_lss hs1_67 (A1.at 66 rfl rfl)) ?_
 refine lx_dec (fun hlt => ?_) (fun hlt => ?_)
 ·
  obtain ⟨d, hd⟩ := getx hlt
  obtain ⟨by_, oy, rfl, _, hcy⟩ := hdd j d hd
  refine lx_nil ?_
  refine wk_seq ?_
  refine wk_cond_t rfl ?_
  refine wk_skip ?_
  refine wk_seq ?_
  refine wk_block ?_
  refine wk_seq ?_
  refine wk_region ?_
  refine lx_value (want rfl) (rn_index _ Tryz.underlying76 sz_75 (A1.at 65 rfl rfl) hs1_67 rfl (by omega)) ?_
  refine lx_value (want rfl) (rn_load2 ag_75 sz_75 rfl (F9.cell (fun h => h) (hcy 0 _ rfl)) (F9.cell (fun h => h) (hcy 1 _ rfl))) ?_
  refine lx_new (want rfl) (rn_alloc ze_75) ?_
  intro b5 w10 hb5 Eb5 B5 hlb5
  have F10 := F9.ext Eb5
  have hzb5 := Eb5.size
  have nb1 : ∀ k, ob so1_1 k → k ≠ b5 := fun k hk => by have := (ow1L_1).lt hk; omega
  refine lx_set (want rfl) sz_75 rfl (t_agg rfl) rfl rfl rfl B5 (Nat.le_of_ble_eq_true rfl) ?_
  intro w11 Es2 Bs2
  have F11 := F10.set Es2 (by omega)
  have hzs2 := Es2.size
  refine lx_nil ?_
  refine wk_region ?_
  refine lx_value (want rfl) (mv_slice ho1_1) ?_
  refine lx_value (want rfl) (rn_fieldAddr fa_23_0 (A1.at 4 rfl rfl)) ?_
  refine lx_value (want rfl) (rn_load1Blk ag_3 rfl ((BL1_2.ext Eb5).ne Es2 (by omega)) rfl) ?_
  refine lx_value (want rfl) (rn_fieldAddr fa_75_0 rfl) ?_
  refine lx_value (want rfl) (rn_load1Blk ag_3 rfl Bs2 rfl) ?_
  refine lx_value (want rfl) (rn_fieldAddr fa_75_1 rfl) ?_
  refine lx_value (want rfl) (rn_load1Blk ag_3 rfl Bs2 rfl) ?_
  refine lx_value (want rfl) (rn_loadBlk ag_48 sz_48 (A1.at 5 rfl rfl) ((BL1_3.ext Eb5).ne Es2 (by omega)) rfl rfl) ?_
  refine lx_value (want rfl) (rn_build4 (t_int rfl) (t_int rfl) (t_int rfl) (t_agg rfl) (fun w => bd_51_0_1_2_3 _ _ _ _ _ w)) ?_
  refine lx_newS (want rfl) (rn_bslice (xs := [.tmp 79]) Tryz.underlying56 sz_51 ze_51 rfl (argsC (t_agg rfl) args0) (CL.cons rfl rfl CL.nil) rfl (Nat.le_of_ble_eq_true rfl)) ?_
  intro b6 w12 hb6 Eb6 B6 hlb6
  have F12 := F11.ext Eb6
  have hzb6 := Eb6.size
  have nb2 : ∀ k, ob so1_1 k → k ≠ b6 := fun k hk => by have := (ow1L_1).lt hk; omega
  refine lx_append 40 (want rfl) Tryz.underlying56 ti_51 (by decide) rfl (by decide) rfl rfl (((ow1L_1.ext Eb5).ne Es2 (fun h => nb1 _ h rfl)).ext Eb6) ((Src.blk B6 rfl rfl)) (by omega) ?_
  intro sq2 cq2 w13 AP2
  have EA2 := AP2.fr
  have ow2 := AP2.own
  have ge2 : ∀ k, ob sq2 k → w0.heap.size ≤ k := fun k hk => (AP2.blk k hk).elim (ge1L_1 k) (fun h => (Nat.le_trans F12.size h))
  have ne2_1 : ∀ k, ob sq2 k → k ≠ b1 := fun k hk => (AP2.blk k hk).elim (ne1L_1_1 k) (fun h => by have := ((((BL1_1.ext Eb5).ne Es2 (by omega)).ext Eb6)).lt; omega)
  have ne2_2 : ∀ k, ob sq2 k → k ≠ b2 := fun k hk => (AP2.blk k hk).elim (ne1L_1_2 k) (fun h => by have := ((((BL1_2.ext Eb5).ne Es2 (by omega)).ext Eb6)).lt; omega)
  have ne2_3 : ∀ k, ob sq2 k → k ≠ b3 := fun k hk => (AP2.blk k hk).elim (ne1L_1_3 k) (fun h => by have := ((((BL1_3.ext Eb5).ne Es2 (by omega)).ext Eb6)).lt; omega)
  have ne2_4 : ∀ k, ob sq2 k → k ≠ b4 := fun k hk => (AP2.blk k hk).elim (ne1L_1_4 k) (fun h => by have := ((((BL1_4.ext Eb5).ne Es2 (by omega)).ext Eb6)).lt; omega)
  have ne2_5 : ∀ k, ob sq2 k → k ≠ b5 := fun k hk => (AP2.blk k hk).elim (nb1 k) (fun h => by have := ((Bs2.ext Eb6)).lt; omega)
  have ne2_6 : ∀ k, ob sq2 k → k ≠ b6 := fun k hk => (AP2.blk k hk).elim (nb2 k) (fun h => by have := (B6).lt; omega)
  have F13 := F12.new EA2 ge1L_1
  have hzA2 := EA2.size
  have BA2_1 := (((BL1_1.ext Eb5).ne Es2 (by omega)).ext Eb6).fr EA2 (fun h => ne1L_1_1 _ h rfl)
  have BA2_2 := (((BL1_2.ext Eb5).ne Es2 (by omega)).ext Eb6).fr EA2 (fun h => ne1L_1_2 _ h rfl)
  have BA2_3 := (((BL1_3.ext Eb5).ne Es2 (by omega)).ext Eb6).fr EA2 (fun h => ne1L_1_3 _ h rfl)
  have BA2_4 := (((BL1_4.ext Eb5).ne Es2 (by omega)).ext Eb6).fr EA2 (fun h => ne1L_1_4 _ h rfl)
  have BA2_5 := (Bs2.ext Eb6).fr EA2 (fun h => nb1 _ h rfl)
  have BA2_6 := B6.fr EA2 (fun h => nb2 _ h rfl)
  refine lx_value (want rfl) (as_slice rfl) ?_
  refine lx_nil ?_
  refine wk_region ?_
  refine lx_value (want rfl) (rn_add hs1_67 rfl (by omega)) ?_
  refine lx_value (want rfl) (mv_int rfl) ?_
  refine lx_nil ?_
  exact ⟨rfl, (((((((((((((((((((A1.up rfl _).up rfl _).up rfl _).up rfl _).none _).up rfl _).up rfl _).up rfl _).up rfl _).up rfl _).up rfl _).up rfl _).up rfl _).up rfl _).up rfl _).up rfl _).up rfl _).up rfl _).up rfl _), Fr.between F8 F13 (by omega), _, (by omega), j + 1, sq2, cq2, rfl, rfl, BA2_1, BA2_2, BA2_3, BA2_4, rfl, (by rw [← tkL_step hd]; exact ow2), ge2, ne2_1, ne2_2, ne2_3, ne2_4, by omega⟩
 ·
  obtain rfl : j = (tkL ctx v ds).length := by omega
  refine lx_nil ?_
  refine wk_seq ?_
  refine wk_cond_f rfl ?_
  refine wk_exit ?_
  refine wk_seq ?_
  refine wk_region ?_
  refine lx_value (want rfl) (rn_loadBlk ag_80 sz_80 (A1.at 8 rfl rfl) BL1_4 rfl rfl) ?_
  refine lx_value (want rfl) (mv_slice ho1_1) ?_
  have hO1 := ow1L_1
  rw [List.take_of_length_le (l := ds) (by omega)] at hO1
  have hTs := hO1.sl (by decide) rfl (fun _ _ => rfl) (fun k hk => ge1L_1 k hk)
  refine lx_call (want rfl) (ent_func cf_32 (argsC (t_agg rfl) (argsC (t_slice rfl) args0))) (sent_ct SS _ ca sb cb F hok.sm (tkL ctx v ds) _ _ _ (by omega) hs w9 (hS0.fr F9 (fun _ _ h => h)) hTs) ?_
  rintro _ w10 E4 rfl
  have F14 := F9.ext E4
  have hz4 := E4.size
  refine lx_value (want rfl) (rn_extract rfl rfl) ?_
  refine lx_value (want rfl) (rn_extract rfl rfl) ?_
  refine lx_value (want rfl) (as_slice rfl) ?_
  refine lx_value (want rfl) (as_int rfl) ?_
  refine lx_nil ?_
  refine wk_ret ?_
  refine retR2 Tryz.results17 (.tmp (t_slice rfl)) (.tmp (t_int rfl)) F14 ?_
  exact ⟨_, _, rfl, hTs.fr (tk_stab _) (Fr.ext (Fr.refl no w9) E4) (fun k hk h => h)⟩

theorem begin_ct (SS : Sto) (sa : Option Addr) (ca : Nat) (sb : Option Addr) (cb : Nat) (F : Nat → Prop) (hok : OkS SS) (rm : Nat) (La Lb : List Ent) (s1 : Option Addr) (c1 : Nat) (s2 : Option Addr) (c2 : Nat) (G : Nat → Prop) (hR : RightE SS rm La Lb) (w0 : World) (hS : StR F w0 SS sa ca sb cb) (h1 : EnS G w0 s1 La) (h2 : EnS G w0 s2 Lb) :
  CT Tryz.prog 27 [.agg #[.slice sa SS.slots.length ca, .slice sb SS.code.length cb], .agg #[.int .i64 (rm : Nat), .slice s1 La.length c1, .slice s2 Lb.length c2, .slice none 0 0]] w0 no (fun v w => ∃ b s1 c1 us1 Z1 s2 c2 us2 Z2, v = .tuple #[.pointer (some ⟨b, 0, none⟩), .int .i64 0] ∧ Blk w b (elL (.slice sa SS.slots.length ca) (.slice sb SS.code.length cb) rm s1 La.length c1 s2 Lb.length c2 (.slice none 0 0)) 90 ∧ ElO w w0.heap.size b s1 c1 us1 Z1 s2 c2 us2 Z2 La Lb) := by
 have hrm := hR.rm
 have hlen := hR.len
 have hov := hR.over
 have hl2 := hR.len2
 have hpo := hR.ports
 have F0 := Fr.refl no w0
 refine ct_body Tryz.func27 rfl Tryz.ntmps27 (Nat.le_of_ble_eq_true rfl) ?_
 refine wk_seq ?_
 refine wk_region ?_
 refine lx_new (want rfl) (rn_box (t_agg rfl)) ?_
 intro b1 w1 hb1 Eb1 B1 hlb1
 have F1 := F0.ext Eb1
 have hzb1 := Eb1.size
 refine lx_new (want rfl) (rn_box (t_agg rfl)) ?_
 intro b2 w2 hb2 Eb2 B2 hlb2
 have F2 := F1.ext Eb2
 have hzb2 := Eb2.size
 refine lx_value (want rfl) (as_pointer rfl) ?_
 refine lx_value (want rfl) (as_int rfl) ?_
 refine lx_nil ?_
 refine wk_seq ?_
 refine wk_region ?_
 refine lx_value (want rfl) (rn_loadBlk ag_35 sz_35 rfl (B1.ext Eb2) rfl rfl) ?_
 refine lx_call (want rfl) (ent_func cf_23 (argsC (t_agg rfl) args0)) (eopen_ct SS sa ca sb cb F hok w2 (hS.fr F2 (fun _ _ h => h))) ?_
 rintro _ w3 E1 rfl
 have F3 := F2.ext E1
 have hz1 := E1.size
 refine lx_value (want rfl) (mv_tuple rfl) ?_
 refine lx_value (want rfl) (rn_extract rfl rfl) ?_
 refine lx_value (want rfl) (rn_extract rfl rfl) ?_
 refine lx_new (want rfl) (rn_alloc ze_80) ?_
 intro b3 w4 hb3 Eb3 B3 hlb3
 have F4 := F3.ext Eb3
 have hzb3 := Eb3.size
 refine lx_set (want rfl) sz_80 rfl (t_agg rfl) rfl rfl rfl B3 (Nat.le_of_ble_eq_true rfl) ?_
 intro w5 Es1 Bs1
 have F5 := F4.set Es1 (by omega)
 have hzs1 := Es1.size
 refine lx_value (want rfl) (as_int rfl) ?_
 refine lx_nil ?_
 refine wk_seq ?_
 refine wk_seq ?_
 refine wk_region ?_
 refine lx_value (want rfl) (mv_int rfl) ?_
 refine lx_value (want rfl) (rn_neq rfl rfl) ?_
 refine lx_dec_f ((fun g => g rfl)) ?_
 refine lx_value (want rfl) (mv_bool rfl) ?_
 refine lx_value (want_if (j := 2) (d := 15) (x := false) (y := false) rfl rfl (by decide) rfl) (rn_loadBlk ag_80 sz_80 rfl Bs1 rfl rfl) ?_
 refine lx_value (want_if (j := 2) (d := 15) (x := false) (y := false) rfl rfl (by decide) rfl) (rn_loadBlk ag_42 sz_42 rfl (((B2.ext E1).ext Eb3).ne Es1 (by omega)) rfl rfl) ?_
 refine lx_call (want_if (j := 2) (d := 15) (x := false) (y := false) rfl rfl (by decide) rfl) (ent_func cf_36 (argsC (t_agg rfl) (argsC (t_agg rfl) args0))) (righte_ct SS sa ca sb cb F hok.sm rm La Lb s1 c1 s2 c2 G hR w5 (hS.fr F5 (fun _ _ h => h)) (h1.fr (en_stab _) F5 (fun _ _ h => h)) (h2.fr (en_stab _) F5 (fun _ _ h => h))) ?_
 rintro _ w6 E2 rfl
 have F6 := F5.ext E2
 have hz2 := E2.size
 refine lx_value (want_if (j := 2) (d := 15) (x := false) (y := false) rfl rfl (by decide) rfl) (rn_not rfl) ?_
 refine lx_value (want rfl) (pick_f rfl rfl) ?_
 refine lx_nil ?_
 refine wk_cond_f rfl ?_
 refine wk_skip ?_
 refine wk_seq ?_
 refine wk_mix 13 (fun kS => match kS with | 5 => .any (fun I v w => w6.heap.size ≤ I.1 ∧ ∃ s c us Z, v = .slice s La.length c ∧ OwnS w 55 3 s La.length c us ∧ HZ 3 QO Z w us La ∧ (∀ k, ob s k → I.1 ≤ k ∧ k < I.2) ∧ (∀ k, Z k → I.1 ≤ k ∧ k < I.2) ∧ ∀ k, Z k → ob s k → False) | 8 => .any (fun I v w => w6.heap.size ≤ I.1 ∧ ∃ s c us Z, v = .slice s Lb.length c ∧ OwnS w 55 3 s Lb.length c us ∧ HZ 3 QO Z w us Lb ∧ (∀ k, ob s k → I.1 ≤ k ∧ k < I.2) ∧ (∀ k, Z k → I.1 ≤ k ∧ k < I.2) ∧ ∀ k, Z k → ob s k → False) | 11 => .val (.slice none 0 0) | _ => .none) (by kernel_rfl) (by kernel_rfl) (by intro kS G hk; (try dsimp only at hk); (split at hk) <;> first | (cases hk; done) | (injection hk with hk; subst hk; exact ⟨by intro j hkj I v w w' hR hG; first | exact hG | (obtain ⟨h0, s, c, us, Z, h1, h2, h3, h4, h5, h6⟩ := hG; exact ⟨h0, s, c, us, Z, h1, h2.ext hR, h3.ext hR, h4, h5, h6⟩) | (obtain ⟨h0, s, c, us, Z, h1, h2, h3, h4, h5, h6⟩ := hG; exact ⟨h0, s, c, us, Z, h1, h2.ext hR, h3.ext hR, h4, h5, h6⟩), fun ⟨_, _, _, _, hs⟩ => by (try dsimp only at hs); split at hs <;> cases hs⟩)) (by intro kS s y G hk; (try dsimp only at hk); split at hk <;> cases hk) ?_
 simp only [List.take_succ_cons, List.take_zero, List.take_nil, List.drop_succ_cons, List.drop_zero, List.drop_nil]
 refine mx_calm rfl (want rfl) (fun u1 eu1 fu1 => rn_loadBlk ag_80 sz_80 rfl ((Bs1.ext E2).ext ((ext_drawn _).trans' eu1)) rfl rfl) ?_
 refine mx_calm rfl (want rfl) (fun u2 eu2 fu2 => rn_fieldAddr fa_42_0 rfl) ?_
 refine mx_calm rfl (want rfl) (fun u3 eu3 fu3 => rn_load1Blk ag_3 rfl (((((B2.ext E1).ext Eb3).ne Es1 (by omega)).ext E2).ext ((ext_drawn _).trans' eu3)) rfl) ?_
 refine mx_calm rfl (want rfl) (fun u4 eu4 fu4 => rn_fieldAddr fa_42_1 rfl) ?_
 refine mx_calm rfl (want rfl) (fun u5 eu5 fu5 => rn_load1Blk ag_39 rfl (((((B2.ext E1).ext Eb3).ne Es1 (by omega)).ext E2).ext ((ext_drawn _).trans' eu5)) rfl) ?_
 refine mx_any rfl rfl (want rfl) (fun u6 eu6 fu6 => do_call (ent_func cf_37 (argsC (t_slice rfl) args0)) (own_ct La s1 c1 G (by omega) hpo.1 u6 (h1.fr (en_stab _) (F6.ext ((ext_drawn _).trans' eu6)) (fun _ _ h => h))) (fun v w' E h => ⟨E, (by obtain ⟨s, c, us, Z, h1, h2, h3, h4, h5, h6⟩ := h; exact ⟨(((ext_drawn _).trans' eu6)).size, s, c, us, Z, h1, h2, h3, fun k hk => ⟨h4 k hk, h2.lt hk⟩, fun k hk => ⟨h5 k hk, h3.lt hk⟩, h6⟩)⟩)) (fun I26 v26 => ?_)
 refine mx_calm rfl (want rfl) (fun u7 eu7 fu7 => rn_fieldAddr fa_42_2 rfl) ?_
 refine mx_calm rfl (want rfl) (fun u8 eu8 fu8 => rn_load1Blk ag_39 rfl (((((B2.ext E1).ext Eb3).ne Es1 (by omega)).ext E2).ext ((ext_drawn _).trans' eu8)) rfl) ?_
 refine mx_any rfl rfl (want rfl) (fun u9 eu9 fu9 => do_call (ent_func cf_37 (argsC (t_slice rfl) args0)) (own_ct Lb s2 c2 G (by omega) hpo.2 u9 (h2.fr (en_stab _) (F6.ext ((ext_drawn _).trans' eu9)) (fun _ _ h => h))) (fun v w' E h => ⟨E, (by obtain ⟨s, c, us, Z, h1, h2, h3, h4, h5, h6⟩ := h; exact ⟨(((ext_drawn _).trans' eu9)).size, s, c, us, Z, h1, h2, h3, fun k hk => ⟨h4 k hk, h2.lt hk⟩, fun k hk => ⟨h5 k hk, h3.lt hk⟩, h6⟩)⟩)) (fun I29 v29 => ?_)
 refine mx_calm rfl (want rfl) (fun u10 eu10 fu10 => rn_fieldAddr fa_42_3 rfl) ?_
 refine mx_calm rfl (want rfl) (fun u11 eu11 fu11 => rn_load1Blk ag_40 rfl (((((B2.ext E1).ext Eb3).ne Es1 (by omega)).ext E2).ext ((ext_drawn _).trans' eu11)) rfl) ?_
 refine mx_val rfl (want rfl) (fun u12 eu12 fu12 => do_call (ent_func cf_38 (argsC (t_slice rfl) args0)) (clonep_ct u12) (fun _ _ E h => ⟨E, h⟩)) ?_
 refine mx_calm (v := .agg #[.int .i64 (rm : Nat), .slice (sOf v26) La.length (cOf v26), .slice (sOf v29) Lb.length (cOf v29), .slice none 0 0]) rfl (want rfl) (fun u13 eu13 fu13 => by obtain ⟨_, s26, c26, u26, Z26, rfl, _⟩ := fu13 26 _ rfl (show (26 : Nat) ∈ _ from by decide); obtain ⟨_, s29, c29, u29, Z29, rfl, _⟩ := fu13 29 _ rfl (show (29 : Nat) ∈ _ from by decide); exact rn_build4 (t_int rfl) (t_slice rfl) (t_slice rfl) (t_slice rfl) (fun w => bd_42_0_1_2_3 _ _ _ _ _ _ _ _ _ _ w)) ?_
 refine mx_nil (fun w7 E3' H1 HS => ?_)
 have E3 := (ext_drawn _).trans' E3'
 have F7 := F6.ext E3
 have hz3 := E3.size
 have hI29 := (HS.1 29 _ rfl).2
 have hI26 := (HS.1 26 _ rfl).2
 have hX29_26 := HS.2 29 _ 26 _ rfl rfl (show (29 : Nat) ≠ 26 from by decide)
 simp only at hI29
 simp only at hI26
 simp only at hX29_26
 have g29 := H1 29 _ rfl
 obtain ⟨hlo29, sB, cB, usB, ZB, rfl, hOB, hHB, hB1, hB2, hB3⟩ := g29
 have g26 := H1 26 _ rfl
 obtain ⟨hlo26, sA, cA, usA, ZA, rfl, hOA, hHA, hA1, hA2, hA3⟩ := g26
 refine lx_value (want rfl) (rn_build2 (t_agg rfl) (t_agg rfl) (fun w => bd_90_0_1 _ _ _ _ _ _ _ _ _ _ _ _ _ _ _ _ w)) ?_
 refine lx_new (want rfl) (rn_box (t_agg rfl)) ?_
 intro b4 w8 hb4 Eb4 B4 hlb4
 have F8 := F7.ext Eb4
 have hzb4 := Eb4.size
 refine lx_value (want rfl) (as_pointer rfl) ?_
 refine lx_value (want rfl) (as_int rfl) ?_
 refine lx_nil ?_
 refine wk_ret ?_
 refine retR2 Tryz.results27 (.tmp (t_pointer rfl)) (.tmp (t_int rfl)) F8 ?_
 exact ⟨b4, sA, cA, usA, ZA, sB, cB, usB, ZB, rfl, B4, ⟨hOA.ext (Fr.ext (Fr.refl no w7) Eb4), hHA.ext (Fr.ext (Fr.refl no w7) Eb4), hOB.ext (Fr.ext (Fr.refl no w7) Eb4), hHB.ext (Fr.ext (Fr.refl no w7) Eb4), by omega, fun k hk => by have := hA1 k hk; omega, fun k hk => by have := hB1 k hk; omega, fun k hk => by have := hA2 k hk; omega, fun k hk => by have := hB2 k hk; omega, fun k hk => by have := hA1 k hk; omega, fun k hk => by have := hB1 k hk; omega, fun k hk => by have := hA2 k hk; omega, fun k hk => by have := hB2 k hk; omega, fun k hk h => by have := hA1 k hk; have := hB1 k h; omega, hA3, hB3, fun k hk h => by have := hB2 k hk; have := hA1 k h; omega, fun k hk h => by have := hA2 k hk; have := hB1 k h; omega, fun k hk h => by have := hA2 k hk; have := hB2 k h; omega⟩⟩

theorem executea_ct (SS : Sto) (sa : Option Addr) (ca : Nat) (sb : Option Addr) (cb : Nat) (F : Nat → Prop) (hok : OkS SS) (at_ : Int) (hpl : placeB SS at_ = true) (ctx : Int) (hctx : 0 ≤ ctx ∧ ctx ≤ 399) (hn6 : (codeAt SS at_).op ≠ 6) (xi : Int) (xs : List (List Ds)) (hca : codeAt SS at_ = ⟨4, ltN, xi, xs⟩) (a b : Vl) (ha : intB a) (hb : intB b) (ds : List Ds) (hds : xs[0]? = some ds) (hdl : ds.length ≤ 1000) (s : Option Addr) (c : Nat) (G : Nat → Prop) (hO : OpsOk (codeAt SS at_) [a, b]) (hho : holesN [a, b] = 0) (w0 : World) (hS : StR F w0 SS sa ca sb cb) (hl : VlS G w0 s [a, b]) :
  CT Tryz.prog 16 [.agg #[.slice sa SS.slots.length ca, .slice sb SS.code.length cb], .agg #[.int .i64 ctx, .int .i64 at_, .slice s 2 c]] w0 no (fun u w => ∃ s c, u = .tuple #[.agg #[.slice s (tkL ctx (ltV a b) ds).length c, .slice none 0 0], .int .i64 0] ∧ OwnS w 51 5 s (tkL ctx (ltV a b) ds).length c ((tkL ctx (ltV a b) ds).flatMap tkC) ∧ ∀ k, ob s k → w0.heap.size ≤ k) := by
 have F0 := Fr.refl no w0
 refine ct_body Tryz.func16 rfl Tryz.ntmps16 (Nat.le_of_ble_eq_true rfl) ?_
 refine wk_seq ?_
 refine wk_region ?_
 refine lx_new (want rfl) (rn_box (t_agg rfl)) ?_
 intro b1 w1 hb1 Eb1 B1 hlb1
 have F1 := F0.ext Eb1
 have hzb1 := Eb1.size
 refine lx_new (want rfl) (rn_box (t_agg rfl)) ?_
 intro b2 w2 hb2 Eb2 B2 hlb2
 have F2 := F1.ext Eb2
 have hzb2 := Eb2.size
 refine lx_new (want rfl) (rn_alloc ze_59) ?_
 intro b3 w3 hb3 Eb3 B3 hlb3
 have F3 := F2.ext Eb3
 have hzb3 := Eb3.size
 refine lx_value (want rfl) (as_int rfl) ?_
 refine lx_nil ?_
 refine wk_seq ?_
 refine wk_region ?_
 refine lx_value (want rfl) (rn_loadBlk ag_35 sz_35 rfl ((B1.ext Eb2).ext Eb3) rfl rfl) ?_
 refine lx_call (want rfl) (ent_func cf_23 (argsC (t_agg rfl) args0)) (eopen_ct SS sa ca sb cb F hok w3 (hS.fr F3 (fun _ _ h => h))) ?_
 rintro _ w4 E1 rfl
 have F4 := F3.ext E1
 have hz1 := E1.size
 refine lx_value (want rfl) (mv_tuple rfl) ?_
 refine lx_value (want rfl) (rn_extract rfl rfl) ?_
 refine lx_value (want rfl) (rn_extract rfl rfl) ?_
 refine lx_new (want rfl) (rn_alloc ze_80) ?_
 intro b4 w5 hb4 Eb4 B4 hlb4
 have F5 := F4.ext Eb4
 have hzb4 := Eb4.size
 refine lx_set (want rfl) sz_80 rfl (t_agg rfl) rfl rfl rfl B4 (Nat.le_of_ble_eq_true rfl) ?_
 intro w6 Es1 Bs1
 have F6 := F5.set Es1 (by omega)
 have hzs1 := Es1.size
 refine lx_value (want rfl) (as_int rfl) ?_
 refine lx_nil ?_
 refine wk_seq ?_
 refine wk_seq ?_
 refine wk_region ?_
 refine lx_value (want rfl) (mv_int rfl) ?_
 refine lx_value (want rfl) (rn_eql rfl rfl) ?_
 refine lx_dec_t (rfl) ?_
 refine lx_nil ?_
 refine wk_cond_t rfl ?_
 refine wk_region ?_
 refine lx_value (want rfl) (rn_loadBlk ag_80 sz_80 rfl Bs1 rfl rfl) ?_
 refine lx_value (want rfl) (rn_loadBlk ag_55 sz_55 rfl ((((B2.ext Eb3).ext E1).ext Eb4).ne Es1 (by omega)) rfl rfl) ?_
 refine lx_call (want rfl) (ent_func cf_30 (argsC (t_agg rfl) (argsC (t_agg rfl) args0))) (isready_ct SS sa ca sb cb F hok.sm ⟨ctx, at_, [a, b]⟩ s c G hctx hpl hn6 hO (Nat.le_of_ble_eq_true rfl) hho w6 (hS.fr F6 (fun _ _ h => h)) (hl.fr (vl_stab _) F6 (fun _ _ h => h))) ?_
 rintro _ w7 E2 rfl
 have F7 := F6.ext E2
 have hz2 := E2.size
 refine lx_value (want rfl) (as_int rfl) ?_
 refine lx_nil ?_
 refine wk_seq ?_
 refine wk_seq ?_
 refine wk_region ?_
 refine lx_value (want rfl) (mv_int rfl) ?_
 refine lx_value (want rfl) (rn_neq rfl rfl) ?_
 refine lx_dec_f ((fun g => g rfl)) ?_
 refine lx_nil ?_
 refine wk_cond_f rfl ?_
 refine wk_skip ?_
 refine wk_seq ?_
 refine wk_region ?_
 refine lx_value (want rfl) (rn_loadBlk ag_80 sz_80 rfl (Bs1.ext E2) rfl rfl) ?_
 refine lx_value (want rfl) (rn_loadBlk ag_55 sz_55 rfl (((((B2.ext Eb3).ext E1).ext Eb4).ne Es1 (by omega)).ext E2) rfl rfl) ?_
 refine lx_call (want rfl) (ent_func cf_31 (argsC (t_agg rfl) (argsC (t_agg rfl) args0))) (execa_ct SS sa ca sb cb F hok.sm at_ hpl ctx xi xs hca a b ha hb ds hds hdl s c G w7 (hS.fr F7 (fun _ _ h => h)) (hl.fr (vl_stab _) F7 (fun _ _ h => h))) ?_
 rintro _ w8 E3 ⟨sT, cT, rfl, hTT, hgT⟩
 have F8 := F7.ext E3
 have hz3 := E3.size
 refine lx_set (want rfl) sz_59 rfl (t_agg rfl) rfl rfl rfl (((((B3.ext E1).ext Eb4).ne Es1 (by omega)).ext E2).ext E3) (Nat.le_of_ble_eq_true rfl) ?_
 intro w9 Es2 Bs2
 have F9 := F8.set Es2 (by omega)
 have hzs2 := Es2.size
 refine lx_value (want rfl) (as_int rfl) ?_
 refine lx_nil ?_
 refine wk_ret ?_
 refine retR2 Tryz.results16 (.cell rfl (run_loadVar_blk ag_59 sz_59 Bs2 rfl rfl)) (.tmp (t_int rfl)) F9 ?_
 exact ⟨sT, cT, rfl, hTT.fr (Fr.trans (Fr.refl (fun k => k = b3) w8) Es2 (fun k _ h => h)) (fun k hk h => by have := hgT k hk; (try dsimp only at h); omega), fun k hk => by have := hgT k hk; omega⟩

theorem ports_ct (SS : Sto) (sa : Option Addr) (ca : Nat) (sb : Option Addr) (cb : Nat) (F : Nat → Prop) (hok : OkS SS) (at_ : Int) (hpl : placeB SS at_ = true) (w0 : World) (hS : StR F w0 SS sa ca sb cb) :
  CT Tryz.prog 11 [.agg #[.slice sa SS.slots.length ca, .slice sb SS.code.length cb], .int .i64 at_] w0 no (fun v _ => v = .tuple #[.int .i64 (portN (codeAt SS at_)), .int .i64 ((codeAt SS at_).outs.length : Nat), .int .i64 0]) := by
 have hsm := hok.sm
 have hcl := smallI_len (smallS_code hsm)
 have F0 := Fr.refl no w0
 refine ct_body Tryz.func11 rfl Tryz.ntmps11 (Nat.le_of_ble_eq_true rfl) ?_
 refine wk_seq ?_
 refine wk_region ?_
 refine lx_new (want rfl) (rn_box (t_agg rfl)) ?_
 intro b1 w1 hb1 Eb1 B1 hlb1
 have F1 := F0.ext Eb1
 have hzb1 := Eb1.size
 refine lx_value (want rfl) (as_int rfl) ?_
 refine lx_value (want rfl) (as_int rfl) ?_
 refine lx_value (want rfl) (as_int rfl) ?_
 refine lx_nil ?_
 refine wk_seq ?_
 refine wk_region ?_
 refine lx_value (want rfl) (rn_loadBlk ag_35 sz_35 rfl B1 rfl rfl) ?_
 refine lx_call (want rfl) (ent_func cf_23 (argsC (t_agg rfl) args0)) (eopen_ct SS sa ca sb cb F hok w1 (hS.fr F1 (fun _ _ h => h))) ?_
 rintro _ w2 E1 rfl
 have F2 := F1.ext E1
 have hz1 := E1.size
 refine lx_value (want rfl) (mv_tuple rfl) ?_
 refine lx_value (want rfl) (rn_extract rfl rfl) ?_
 refine lx_value (want rfl) (rn_extract rfl rfl) ?_
 refine lx_new (want rfl) (rn_alloc ze_80) ?_
 intro b2 w3 hb2 Eb2 B2 hlb2
 have F3 := F2.ext Eb2
 have hzb2 := Eb2.size
 refine lx_set (want rfl) sz_80 rfl (t_agg rfl) rfl rfl rfl B2 (Nat.le_of_ble_eq_true rfl) ?_
 intro w4 Es1 Bs1
 have F4 := F3.set Es1 (by omega)
 have hzs1 := Es1.size
 refine lx_value (want rfl) (as_int rfl) ?_
 refine lx_nil ?_
 refine wk_seq ?_
 refine wk_block ?_
 refine wk_seq ?_
 refine wk_region ?_
 refine lx_value (want rfl) (mv_int rfl) ?_
 refine lx_value (want rfl) (rn_neq rfl rfl) ?_
 refine lx_dec_f ((fun g => g rfl)) ?_
 refine lx_value (want rfl) (as_bool rfl) ?_
 refine lx_nil ?_
 refine wk_cond_f rfl ?_
 refine wk_seq ?_
 refine wk_region ?_
 refine lx_value (want rfl) (rn_loadBlk ag_80 sz_80 rfl Bs1 rfl rfl) ?_
 refine lx_value (want rfl) (mv_int rfl) ?_
 refine lx_call (want rfl) (ent_func cf_24 (argsC (t_agg rfl) (argsC (t_int rfl) args0))) (ispl_ct SS sa ca sb cb hcl _ w4) ?_
 rintro _ w5 E2 rfl
 have F5 := F4.ext E2
 have hz2 := E2.size
 refine lx_b_t (hpl) ?_
 refine lx_value (want rfl) (rn_not rfl) ?_
 refine lx_value (want rfl) (as_bool rfl) ?_
 refine lx_nil ?_
 refine wk_cond_f rfl ?_
 refine wk_skip ?_
 refine wk_seq ?_
 refine wk_mix 6 (fun kS => match kS with | 2 => .val (.int .i64 (portN (codeAt SS at_))) | 5 => .val (.int .i64 ((codeAt SS at_).outs.length : Nat)) | _ => .none) (by kernel_rfl) (by kernel_rfl) (by intro kS G hk; (try dsimp only at hk); (split at hk) <;> first | (cases hk; done) | (injection hk with hk; subst hk; exact ⟨by intro j hkj I v w w' hR hG; first | exact hG, fun ⟨_, _, _, _, hs⟩ => by (try dsimp only at hs); split at hs <;> cases hs⟩)) (by intro kS s y G hk; (try dsimp only at hk); split at hk <;> cases hk) ?_
 simp only [List.take_succ_cons, List.take_zero, List.take_nil, List.drop_succ_cons, List.drop_zero, List.drop_nil]
 refine mx_calm rfl (want rfl) (fun u1 eu1 fu1 => rn_loadBlk ag_80 sz_80 rfl ((Bs1.ext E2).ext ((ext_drawn _).trans' eu1)) rfl rfl) ?_
 refine mx_calm rfl (want rfl) (fun u2 eu2 fu2 => mv_int rfl) ?_
 refine mx_val rfl (want rfl) (fun u3 eu3 fu3 => do_call (ent_func cf_25 (argsC (t_agg rfl) (argsC (t_int rfl) args0))) (eports_ct SS sa ca sb cb F hsm _ hpl u3 (hS.fr (F5.ext ((ext_drawn _).trans' eu3)) (fun _ _ h => h))) (fun _ _ E h => ⟨E, h⟩)) ?_
 refine mx_calm rfl (want rfl) (fun u4 eu4 fu4 => rn_loadBlk ag_80 sz_80 rfl ((Bs1.ext E2).ext ((ext_drawn _).trans' eu4)) rfl rfl) ?_
 refine mx_calm rfl (want rfl) (fun u5 eu5 fu5 => mv_int rfl) ?_
 refine mx_val rfl (want rfl) (fun u6 eu6 fu6 => do_call (ent_func cf_26 (argsC (t_agg rfl) (argsC (t_int rfl) args0))) (eouts_ct SS sa ca sb cb F hsm _ hpl u6 (hS.fr (F5.ext ((ext_drawn _).trans' eu6)) (fun _ _ h => h))) (fun _ _ E h => ⟨E, h⟩)) ?_
 refine mx_nil (fun w6 E3' H1 HS => ?_)
 have E3 := (ext_drawn _).trans' E3'
 have F6 := F5.ext E3
 have hz3 := E3.size
 refine lx_value (want rfl) (as_int rfl) ?_
 refine lx_value (want rfl) (as_int rfl) ?_
 refine lx_value (want rfl) (as_int rfl) ?_
 refine lx_nil ?_
 refine wk_ret ?_
 refine retR3 Tryz.results11 (.tmp (t_int rfl)) (.tmp (t_int rfl)) (.tmp (t_int rfl)) F6 ?_
 exact rfl

theorem executeb_ct (SS : Sto) (sa : Option Addr) (ca : Nat) (sb : Option Addr) (cb : Nat) (F : Nat → Prop) (hok : OkS SS) (at_ : Int) (hpl : placeB SS at_ = true) (ctx : Int) (hctx : 0 ≤ ctx ∧ ctx ≤ 399) (hn6 : (codeAt SS at_).op ≠ 6) (xn : ByteArray) (xi : Int) (xs : List (List Ds)) (hca : codeAt SS at_ = ⟨20, xn, xi, xs⟩) (v : Vl) (hv5 : v.1 ≠ 5) (s : Option Addr) (c : Nat) (G : Nat → Prop) (hO : OpsOk (codeAt SS at_) [v]) (hho : holesN [v] = 0) (w0 : World) (hS : StR F w0 SS sa ca sb cb) (hl : VlS G w0 s [v]) :
  CT Tryz.prog 16 [.agg #[.slice sa SS.slots.length ca, .slice sb SS.code.length cb], .agg #[.int .i64 ctx, .int .i64 at_, .slice s 1 c]] w0 no (fun u w => ∃ bA cs, u = .tuple #[.agg #[.slice none 0 0, .slice (some ⟨bA, 0, none⟩) 1 1], .int .i64 0] ∧ Blk w bA (.int .u8 5 :: cs) 67 ∧ w0.heap.size ≤ bA) := by
 have F0 := Fr.refl no w0
 refine ct_body Tryz.func16 rfl Tryz.ntmps16 (Nat.le_of_ble_eq_true rfl) ?_
 refine wk_seq ?_
 refine wk_region ?_
 refine lx_new (want rfl) (rn_box (t_agg rfl)) ?_
 intro b1 w1 hb1 Eb1 B1 hlb1
 have F1 := F0.ext Eb1
 have hzb1 := Eb1.size
 refine lx_new (want rfl) (rn_box (t_agg rfl)) ?_
 intro b2 w2 hb2 Eb2 B2 hlb2
 have F2 := F1.ext Eb2
 have hzb2 := Eb2.size
 refine lx_new (want rfl) (rn_alloc ze_59) ?_
 intro b3 w3 hb3 Eb3 B3 hlb3
 have F3 := F2.ext Eb3
 have hzb3 := Eb3.size
 refine lx_value (want rfl) (as_int rfl) ?_
 refine lx_nil ?_
 refine wk_seq ?_
 refine wk_region ?_
 refine lx_value (want rfl) (rn_loadBlk ag_35 sz_35 rfl ((B1.ext Eb2).ext Eb3) rfl rfl) ?_
 refine lx_call (want rfl) (ent_func cf_23 (argsC (t_agg rfl) args0)) (eopen_ct SS sa ca sb cb F hok w3 (hS.fr F3 (fun _ _ h => h))) ?_
 rintro _ w4 E1 rfl
 have F4 := F3.ext E1
 have hz1 := E1.size
 refine lx_value (want rfl) (mv_tuple rfl) ?_
 refine lx_value (want rfl) (rn_extract rfl rfl) ?_
 refine lx_value (want rfl) (rn_extract rfl rfl) ?_
 refine lx_new (want rfl) (rn_alloc ze_80) ?_
 intro b4 w5 hb4 Eb4 B4 hlb4
 have F5 := F4.ext Eb4
 have hzb4 := Eb4.size
 refine lx_set (want rfl) sz_80 rfl (t_agg rfl) rfl rfl rfl B4 (Nat.le_of_ble_eq_true rfl) ?_
 intro w6 Es1 Bs1
 have F6 := F5.set Es1 (by omega)
 have hzs1 := Es1.size
 refine lx_value (want rfl) (as_int rfl) ?_
 refine lx_nil ?_
 refine wk_seq ?_
 refine wk_seq ?_
 refine wk_region ?_
 refine lx_value (want rfl) (mv_int rfl) ?_
 refine lx_value (want rfl) (rn_eql rfl rfl) ?_
 refine lx_dec_t (rfl) ?_
 refine lx_nil ?_
 refine wk_cond_t rfl ?_
 refine wk_region ?_
 refine lx_value (want rfl) (rn_loadBlk ag_80 sz_80 rfl Bs1 rfl rfl) ?_
 refine lx_value (want rfl) (rn_loadBlk ag_55 sz_55 rfl ((((B2.ext Eb3).ext E1).ext Eb4).ne Es1 (by omega)) rfl rfl) ?_
 refine lx_call (want rfl) (ent_func cf_30 (argsC (t_agg rfl) (argsC (t_agg rfl) args0))) (isready_ct SS sa ca sb cb F hok.sm ⟨ctx, at_, [v]⟩ s c G hctx hpl hn6 hO (Nat.le_of_ble_eq_true rfl) hho w6 (hS.fr F6 (fun _ _ h => h)) (hl.fr (vl_stab _) F6 (fun _ _ h => h))) ?_
 rintro _ w7 E2 rfl
 have F7 := F6.ext E2
 have hz2 := E2.size
 refine lx_value (want rfl) (as_int rfl) ?_
 refine lx_nil ?_
 refine wk_seq ?_
 refine wk_seq ?_
 refine wk_region ?_
 refine lx_value (want rfl) (mv_int rfl) ?_
 refine lx_value (want rfl) (rn_neq rfl rfl) ?_
 refine lx_dec_f ((fun g => g rfl)) ?_
 refine lx_nil ?_
 refine wk_cond_f rfl ?_
 refine wk_skip ?_
 refine wk_seq ?_
 refine wk_region ?_
 refine lx_value (want rfl) (rn_loadBlk ag_80 sz_80 rfl (Bs1.ext E2) rfl rfl) ?_
 refine lx_value (want rfl) (rn_loadBlk ag_55 sz_55 rfl (((((B2.ext Eb3).ext E1).ext Eb4).ne Es1 (by omega)).ext E2) rfl rfl) ?_
 refine lx_call (want rfl) (ent_func cf_31 (argsC (t_agg rfl) (argsC (t_agg rfl) args0))) (execb_ct SS sa ca sb cb F hok.sm at_ hpl ctx xn xi xs hca v hv5 s c G w7 (hS.fr F7 (fun _ _ h => h)) (hl.fr (vl_stab _) F7 (fun _ _ h => h))) ?_
 rintro _ w8 E3 ⟨bA, csA, rfl, hBA, hbA⟩
 have F8 := F7.ext E3
 have hz3 := E3.size
 refine lx_set (want rfl) sz_59 rfl (t_agg rfl) rfl rfl rfl (((((B3.ext E1).ext Eb4).ne Es1 (by omega)).ext E2).ext E3) (Nat.le_of_ble_eq_true rfl) ?_
 intro w9 Es2 Bs2
 have F9 := F8.set Es2 (by omega)
 have hzs2 := Es2.size
 refine lx_value (want rfl) (as_int rfl) ?_
 refine lx_nil ?_
 refine wk_ret ?_
 refine retR2 Tryz.results16 (.cell rfl (run_loadVar_blk ag_59 sz_59 Bs2 rfl rfl)) (.tmp (t_int rfl)) F9 ?_
 exact ⟨bA, csA, rfl, hBA.fr (Fr.trans (Fr.refl (fun k => k = b3) w8) Es2 (fun k _ h => h)) (fun h => by (try dsimp only at h); omega), by omega⟩

end Go.Proofs.YtgnnegfnpgnbbaaGreatDoor

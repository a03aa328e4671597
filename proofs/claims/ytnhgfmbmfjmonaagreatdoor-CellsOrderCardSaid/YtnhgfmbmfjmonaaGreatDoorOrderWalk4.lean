/- What functions compute: things, given. -/
import Derived.Test.YtnhgfmbmfjmonaaGreatDoorOrderFacts
import Derived.Test.YtnhgfmbmfjmonaaGreatDoorOrderPre
import Derived.Test.YtnhgfmbmfjmonaaGreatDoorOrderWalk1
import Derived.Test.YtnhgfmbmfjmonaaGreatDoorOrderWalk2
import Derived.Test.YtnhgfmbmfjmonaaGreatDoorOrderWalk3
set_option maxRecDepth 100000
set_option linter.unusedVariables false
set_option linter.unusedSimpArgs false
namespace Go.Proofs.YtnhgfmbmfjmonaaGreatDoor
open Go Go.RowKit Go.Mix Go.Eng
set_option maxHeartbeats 4000000 in
set_option maxRecDepth 100000 in
theorem things_ct (x : List Q4) (s : Option Addr) (c : Nat) (F : Nat → Prop) (hb : q4B x) (w0 : World) (hx : Q4S F w0 s x) :
  CT Tryz.prog 46 [.slice s x.length c] w0 no (fun v w => ∃ s' c', v = .slice s' (thL x).length c' ∧ OpS (Iv w0.heap.size w.heap.size) w s' (thL x)) := by
 have F0 := Fr.refl no w0
 refine ct_body Tryz.func46 rfl Tryz.ntmps46 (Nat.le_of_ble_eq_true rfl) ?_
 refine wk_seq ?_
 refine wk_region ?_
 refine lx_value (want rfl) (as_slice rfl) ?_
 refine lx_nil ?_
 refine wk_seq ?_
 refine wk_region ?_
 refine lx_value (want rfl) (as_slice rfl) ?_
 refine lx_nil ?_
 refine wk_seq ?_
 refine wk_region ?_
 refine lx_call (want rfl) (ent_func cf_92 args0) (sizes_ct w0) ?_
 rintro _ w1 E1 ⟨bN, rfl, hbN, hBN⟩
 have F1 := F0.ext E1
 have hz1 := E1.size
 have hlbN := (hBN).lt
 refine lx_value (want rfl) (as_slice rfl) ?_
 refine lx_nil ?_
 refine wk_seq ?_
 refine wk_region ?_
 refine lx_newS (want rfl) (rn_makeSlice Tryz.underlying96 ti_4 rfl rfl rfl (by decide)) ?_
 intro b1 w2 hb1 Eb1 B1 hlb1
 have F2 := F1.ext Eb1
 have hzb1 := Eb1.size
 have owM := OwnS.full (n := 40) (size := 1) (B1) rfl (by decide)
 have ge2 : ∀ k, ob (some (⟨b1, 0, none⟩ : Addr)) k → w0.heap.size ≤ k := fun k hk => (by have := ob_some hk; omega)
 have ne2_92 : ∀ k, ob (some (⟨b1, 0, none⟩ : Addr)) k → k ≠ bN := fun k hk => by have := ob_some hk; have := (hBN).lt; omega
 have sp2_9 : ∀ k, ob (some (⟨b1, 0, none⟩ : Addr)) k → ob none k → False := fun k hk h2 => by have := ob_some hk; have := ((OwnS.nil w0 38 8)).lt h2; omega
 have sr2_9 : ∀ k, ob none k → ob (some (⟨b1, 0, none⟩ : Addr)) k → False := fun k h1 h2 => sp2_9 k h2 h1
 refine lx_value (want rfl) (as_slice rfl) ?_
 refine lx_nil ?_
 refine wk_seq ?_
 refine wk_seq ?_
 refine wk_region ?_
 refine lx_value (want rfl) (as_int rfl) ?_
 refine lx_nil ?_
 refine wk_block ?_
 refine wk_loopA [3, 6, 7, 8, 9, 12, 13, 14, 15, 16, 17, 18, 19, 20, 21, 22, 23, 24, 25, 26, 27, 28, 29, 30, 31, 32, 33, 34, 35, 36, 37, 38, 39, 40, 41, 42, 43, 44, 45, 46, 47, 48, 49, 50, 51, 52, 53, 54, 55, 56, 57, 58, 59, 60, 61, 62, 63, 64, 65, 66, 67, 68, 69, 70, 71, 72, 73, 74, 75, 76, 77, 78, 79, 80, 81, 82, 83, 84, 85, 86, 87, 88, 89, 90, 91, 92, 93, 94, 95, 96] (fun j => no j ∨ w0.heap.size ≤ j) (fun nM ρ w => ∃ (i : Nat) (so1_9 : Option Addr) (co1_9 : Nat) (so1_5 : Option Addr) (co1_5 : Nat), nM = 24 - i ∧ ρ 6 = .int .i64 i ∧ Blk w bN (cellsOf hBN) 3 ∧ ρ 3 = .slice so1_9 ((thF x i).1.length) co1_9 ∧ OwnS w 38 8 so1_9 ((thF x i).1.length) co1_9 ((thF x i).1.flatMap opC) ∧ (∀ k, ob so1_9 k → w0.heap.size ≤ k) ∧ (∀ k, ob so1_9 k → k ≠ bN) ∧ ρ 5 = .slice so1_5 (40) co1_5 ∧ OwnS w 4 1 so1_5 (40) co1_5 (((thF x i).2.map Value.bool)) ∧ (∀ k, ob so1_5 k → w0.heap.size ≤ k) ∧ (∀ k, ob so1_5 k → k ≠ bN) ∧ (∀ k, ob so1_9 k → ob so1_5 k → False) ∧ (i ≤ x.length) ∧ (i ≤ 24) ∧ (∀ k, ob so1_9 k → w0.heap.size ≤ k)) _ ⟨0, none, 0, (some (⟨b1, 0, none⟩ : Addr)), 40, rfl, rfl, (hBN.ext Eb1), rfl, (((OwnS.nil w0 38 8).ext E1).ext Eb1), (fun _ h => ob_none h), (fun _ h => ob_none h), rfl, owM, ge2, ne2_92, sr2_9, Nat.zero_le _, Nat.zero_le _, (fun _ h => ob_none h)⟩ ?_
 rintro n1 ρ1 w3 A1 EL1 ⟨i, so1_9, co1_9, so1_5, co1_5, rfl, hs1_6, BL1_92, ho1_9, ow1L_9, ge1L_9, ne1L_9_92, ho1_5, ow1L_5, ge1L_5, ne1L_5_92, sp1L_9_5, hi, hi24, hs9⟩
 have F3 := F2.wide EL1
 have hzL1 := EL1.size
 refine wk_seq ?_
 refine wk_seq ?_
 refine wk_region ?_
 refine lx_value (want rfl) (mv_int hs1_6) ?_
 refine lx_value (want rfl) (mv_slice (A1.at 0 rfl rfl)) ?_
 refine lx_value (want rfl) (rn_len Tryz.underlying70 rfl) ?_
 refine lx_value (want rfl) (rn_lss rfl rfl) ?_
 refine lx_dec (fun hlx => ?_) (fun hlx => ?_)
 ·
  refine lx_value (want rfl) (mv_bool rfl) ?_
  refine lx_value (want_if (j := 4) (d := 16) (x := true) (y := true) rfl rfl (by decide) rfl) (mv_int hs1_6) ?_
  refine lx_value (want_if (j := 4) (d := 16) (x := true) (y := true) rfl rfl (by decide) rfl) (rn_lss rfl rfl) ?_
  refine lx_dec (fun hl24 => ?_) (fun hl24 => ?_)
  ·
   obtain ⟨q, hq⟩ := getx hlx
   have hqb := hb q (List.mem_of_getElem? hq)
   obtain ⟨bx, ox, rfl, _, hcx⟩ := hx i q hq
   have hTI := th_inv x i (by omega)
   have hs4 : q.1 % 4 < 4 := Nat.mod_lt _ (by decide)
   have hc5 : q.2.1 % 5 < 5 := Nat.mod_lt _ (by decide)
   obtain ⟨wb, hwb⟩ : ∃ y, (thF x i).2[8 * (q.1 % 4) + q.2.1 % 5]? = some y := ⟨_, List.getElem?_eq_getElem (by rw [hTI.wl]; omega)⟩
   have hgd : (thF x i).2.getD (8 * (q.1 % 4) + q.2.1 % 5) false = wb := by rw [List.getD_eq_getElem?_getD, hwb]; rfl
   obtain ⟨bW, oW, hsW⟩ := own_some (ow1L_5) (show 0 < 40 by decide)
   subst hsW
   refine lx_value (want rfl) (pick_t rfl rfl) ?_
   refine lx_nil ?_
   refine wk_cond_t rfl ?_
   refine wk_skip ?_
   refine wk_seq ?_
   refine wk_block ?_
   refine wk_seq ?_
   refine wk_mix 17 (fun _ => .none) (by kernel_rfl) (by kernel_rfl) (fun kS G hk => by cases hk) (fun kS s y G hk => by cases hk) ?_
   simp only [List.take_succ_cons, List.take_zero, List.take_nil, List.drop_succ_cons, List.drop_zero, List.drop_nil]
   refine mx_calm rfl (want rfl) (fun u1 eu1 fu1 => mv_slice (A1.at 0 rfl rfl)) ?_
   refine mx_calm rfl (want rfl) (fun u2 eu2 fu2 => mv_int hs1_6) ?_
   refine mx_calm rfl (want rfl) (fun u3 eu3 fu3 => rn_index i Tryz.underlying70 sz_141 rfl rfl rfl (by omega)) ?_
   refine mx_calm rfl (want rfl) (fun u4 eu4 fu4 => rn_indexA 0 Tryz.underlying141 sz_5 rfl rfl rfl (by decide)) ?_
   refine mx_calm rfl (want rfl) (fun u5 eu5 fu5 => rn_load1 ag_5 rfl ((F3.ext ((ext_drawn _).trans' eu5)).cell (fun h => h) (hcx 0 _ rfl))) ?_
   refine mx_calm rfl (want rfl) (fun u6 eu6 fu6 => rn_conv Tryz.underlying5 Tryz.underlying3 rfl (wrap64_nat (by omega))) ?_
   refine mx_calm rfl (want rfl) (fun u7 eu7 fu7 => mv_slice (A1.at 4 rfl rfl)) ?_
   refine mx_calm rfl (want rfl) (fun u8 eu8 fu8 => rn_len Tryz.underlying77 rfl) ?_
   refine mx_calm (v := .int .i64 ((q.1 % 4 : Nat) : Int)) rfl (want rfl) (fun u9 eu9 fu9 => (rn_remN (n := 4) rfl rfl (by decide))) ?_
   refine mx_calm rfl (want rfl) (fun u10 eu10 fu10 => mv_slice (A1.at 0 rfl rfl)) ?_
   refine mx_calm rfl (want rfl) (fun u11 eu11 fu11 => mv_int hs1_6) ?_
   refine mx_calm rfl (want rfl) (fun u12 eu12 fu12 => rn_index i Tryz.underlying70 sz_141 rfl rfl rfl (by omega)) ?_
   refine mx_calm rfl (want rfl) (fun u13 eu13 fu13 => rn_indexA 1 Tryz.underlying141 sz_5 rfl rfl rfl (by decide)) ?_
   refine mx_calm rfl (want rfl) (fun u14 eu14 fu14 => rn_load1 ag_5 rfl ((F3.ext ((ext_drawn _).trans' eu14)).cell (fun h => h) (hcx 1 _ rfl))) ?_
   refine mx_calm rfl (want rfl) (fun u15 eu15 fu15 => rn_conv Tryz.underlying5 Tryz.underlying3 rfl (wrap64_nat (by omega))) ?_
   refine mx_calm (v := .int .i64 ((q.2.1 % 5 : Nat) : Int)) rfl (want rfl) (fun u16 eu16 fu16 => (rn_remN (n := 5) rfl rfl (by decide))) ?_
   refine mx_calm rfl (want rfl) (fun u17 eu17 fu17 => as_int rfl) ?_
   refine mx_nil (fun w4 E2' H1 HS => ?_)
   have E2 := (ext_drawn _).trans' E2'
   have F4 := F3.ext E2
   have hz2 := E2.size
   refine lx_value (want rfl) (as_int rfl) ?_
   refine lx_nil ?_
   refine wk_seq ?_
   refine wk_region ?_
   refine lx_value (want rfl) (mv_int rfl) ?_
   refine lx_call (want rfl) (ent_func cf_61 (argsC (t_int rfl) args0)) (ref_ct _ w4) ?_
   rintro _ w5 E3 rfl
   have F5 := F4.ext E3
   have hz3 := E3.size
   refine lx_value (want rfl) (mv_int rfl) ?_
   refine lx_call (want rfl) (ent_func cf_41 (argsC (t_int rfl) args0)) (int_ct _ w5) ?_
   rintro _ w6 E4 rfl
   have F6 := F5.ext E4
   have hz4 := E4.size
   refine lx_value (want rfl) (mv_int hs1_6) ?_
   refine lx_value (want rfl) (rn_build4 (t_int rfl) (t_agg rfl) (t_agg rfl) (t_int rfl) (fun w => bd_38_0_1_2_4 _ _ _ _ _ _ w)) ?_
   refine lx_new (want rfl) (rn_alloc ze_38) ?_
   intro b2 w7 hb2 Eb2 B2 hlb2
   have F7 := F6.ext Eb2
   have hzb2 := Eb2.size
   have nb1 : ∀ k, ob so1_9 k → k ≠ b2 := fun k hk => by have := (ow1L_9).lt hk; omega
   have nb2 : ∀ k, ob (some (⟨bW, oW, none⟩ : Addr)) k → k ≠ b2 := fun k hk => by have := (ow1L_5).lt hk; omega
   refine lx_set (want rfl) sz_38 rfl (t_agg rfl) rfl rfl rfl B2 (Nat.le_of_ble_eq_true rfl) ?_
   intro w8 Es1 Bs1
   have F8 := F7.set Es1 (by omega)
   have hzs1 := Es1.size
   refine lx_nil ?_
   refine wk_seq ?_
   refine wk_seq ?_
   refine wk_region ?_
   refine lx_value (want rfl) (mv_slice (A1.at 0 rfl rfl)) ?_
   refine lx_value (want rfl) (mv_int hs1_6) ?_
   refine lx_value (want rfl) (rn_index i Tryz.underlying70 sz_141 rfl rfl rfl (by omega)) ?_
   refine lx_value (want rfl) (rn_indexA 2 Tryz.underlying141 sz_5 rfl rfl rfl (by decide)) ?_
   refine lx_value (want rfl) (rn_load1 ag_5 rfl (F8.cell (fun h => h) (hcx 2 _ rfl))) ?_
   refine lx_value (v := .int .u8 ((q.2.2.1 % 3 : Nat) : Int)) (want rfl) ((rn_remN (n := 3) rfl rfl (by decide))) ?_
   refine lx_value (want rfl) (rn_gtr rfl rfl) ?_
   refine lx_dec (fun hg => ?_) (fun hg => ?_)
   ·
    refine lx_value (want rfl) (mv_bool rfl) ?_
    refine lx_value (want_if (j := 7) (d := 51) (x := true) (y := true) rfl rfl (by decide) rfl) (mv_slice ho1_5) ?_
    refine lx_value (want_if (j := 7) (d := 51) (x := true) (y := true) rfl rfl (by decide) rfl) (mv_int rfl) ?_
    refine lx_value (want_if (j := 7) (d := 51) (x := true) (y := true) rfl rfl (by decide) rfl) (rn_mul rfl rfl (by omega)) ?_
    refine lx_value (want_if (j := 7) (d := 51) (x := true) (y := true) rfl rfl (by decide) rfl) (mv_int rfl) ?_
    refine lx_value (want_if (j := 7) (d := 51) (x := true) (y := true) rfl rfl (by decide) rfl) (rn_add rfl rfl (by omega)) ?_
    refine lx_value (want_if (j := 7) (d := 51) (x := true) (y := true) rfl rfl (by decide) rfl) (rn_index (8 * (q.1 % 4) + q.2.1 % 5) Tryz.underlying96 sz_4 rfl rfl (by omega) (by omega)) ?_
    refine lx_value (want_if (j := 7) (d := 51) (x := true) (y := true) rfl rfl (by decide) rfl) (rn_load1 ag_4 rfl (bool_cell (((((ow1L_5.ext E2).ext E3).ext E4).ext Eb2).ne Es1 (fun h => nb2 _ h rfl)) hTI.wl hwb)) ?_
    refine lx_split (fun hw => ?_) (fun hw => ?_)
    ·
     subst hw
     have hth := th_r hq (fun g => by rw [hgd] at g; cases g.2)
     refine lx_value (want_if (j := 7) (d := 51) (x := true) (y := true) rfl rfl (by decide) rfl) (rn_not rfl) ?_
     refine lx_value (want rfl) (pick_t rfl rfl) ?_
     refine lx_nil ?_
     refine wk_cond_f rfl ?_
     refine wk_skip ?_
     refine wk_region ?_
     refine lx_value (want rfl) (mv_slice ho1_9) ?_
     refine lx_value (want rfl) (rn_loadBlk ag_38 sz_38 rfl Bs1 rfl rfl) ?_
     refine lx_newS (want rfl) (rn_bslice (xs := [.tmp 94]) Tryz.underlying25 sz_38 ze_38 rfl (argsC (t_agg rfl) args0) (CL.cons rfl rfl CL.nil) rfl (Nat.le_of_ble_eq_true rfl)) ?_
     intro b3 w9 hb3 Eb3 B3 hlb3
     have F9 := F8.ext Eb3
     have hzb3 := Eb3.size
     have nb3 : ∀ k, ob so1_9 k → k ≠ b3 := fun k hk => by have := (ow1L_9).lt hk; omega
     have nb4 : ∀ k, ob (some (⟨bW, oW, none⟩ : Addr)) k → k ≠ b3 := fun k hk => by have := (ow1L_5).lt hk; omega
     refine lx_append 64 (want rfl) Tryz.underlying25 ti_38 (by decide) rfl (by decide) rfl rfl ((((((ow1L_9.ext E2).ext E3).ext E4).ext Eb2).ne Es1 (fun h => nb1 _ h rfl)).ext Eb3) ((Src.blk B3 rfl rfl)) (by have := hTI.len; omega) ?_
     intro sq3 cq3 w10 AP3
     have EA3 := AP3.fr
     have ow3 := AP3.own
     have ge3 : ∀ k, ob sq3 k → w0.heap.size ≤ k := fun k hk => (AP3.blk k hk).elim (ge1L_9 k) (fun h => (Nat.le_trans F9.size h))
     have ne3_92 : ∀ k, ob sq3 k → k ≠ bN := fun k hk => (AP3.blk k hk).elim (ne1L_9_92 k) (fun h => by have := (((((((BL1_92.ext E2).ext E3).ext E4).ext Eb2).ne Es1 (by omega)).ext Eb3)).lt; omega)
     have ne3_2 : ∀ k, ob sq3 k → k ≠ b2 := fun k hk => (AP3.blk k hk).elim (nb1 k) (fun h => by have := ((Bs1.ext Eb3)).lt; omega)
     have ne3_3 : ∀ k, ob sq3 k → k ≠ b3 := fun k hk => (AP3.blk k hk).elim (nb3 k) (fun h => by have := (B3).lt; omega)
     have sp3_5 : ∀ k, ob sq3 k → ob (some (⟨bW, oW, none⟩ : Addr)) k → False := fun k hk h2 => (AP3.blk k hk).elim (fun h => sp1L_9_5 k h h2) (fun h => by have := (((((((ow1L_5.ext E2).ext E3).ext E4).ext Eb2).ne Es1 (fun h => nb2 _ h rfl)).ext Eb3)).lt h2; omega)
     have F10 := F9.new EA3 ge1L_9
     have hzA3 := EA3.size
     have BA3_92 := ((((((BL1_92.ext E2).ext E3).ext E4).ext Eb2).ne Es1 (by omega)).ext Eb3).fr EA3 (fun h => ne1L_9_92 _ h rfl)
     have BA3_2 := (Bs1.ext Eb3).fr EA3 (fun h => nb1 _ h rfl)
     have BA3_3 := B3.fr EA3 (fun h => nb3 _ h rfl)
     have oA3_5 := ((((((ow1L_5.ext E2).ext E3).ext E4).ext Eb2).ne Es1 (fun h => nb2 _ h rfl)).ext Eb3).fr EA3 (fun k h1 h2 => sp1L_9_5 k h2 h1)
     have sr3_5 : ∀ k, ob (some (⟨bW, oW, none⟩ : Addr)) k → ob sq3 k → False := fun k h1 h2 => sp3_5 k h2 h1
     refine lx_value (want rfl) (as_slice rfl) ?_
     refine lx_nil ?_
     refine wk_region ?_
     refine lx_value (want rfl) (mv_int hs1_6) ?_
     refine lx_value (want rfl) (rn_add rfl rfl (by omega)) ?_
     refine lx_value (want rfl) (as_int rfl) ?_
     refine lx_nil ?_
     exact ⟨rfl, (((((((((((((((((((((((((((((((((((((((((((((((((((((((((((A1.up rfl _).up rfl _).up rfl _).up rfl _).up rfl _).up rfl _).up rfl _).up rfl _).up rfl _).up rfl _).up rfl _).up rfl _).up rfl _).up rfl _).up rfl _).up rfl _).up rfl _).up rfl _).up rfl _).up rfl _).up rfl _).up rfl _).up rfl _).up rfl _).up rfl _).up rfl _).up rfl _).up rfl _).up rfl _).up rfl _).up rfl _).up rfl _).up rfl _).none _).up rfl _).up rfl _).up rfl _).up rfl _).up rfl _).up rfl _).up rfl _).up rfl _).up rfl _).up rfl _).up rfl _).up rfl _).up rfl _).up rfl _).up rfl _).up rfl _).up rfl _).up rfl _).up rfl _).up rfl _).up rfl _).up rfl _).up rfl _).up rfl _).up rfl _), Fr.between F2 F10 (by omega), _, (by omega), i + 1, sq3, cq3, (some (⟨bW, oW, none⟩ : Addr)), co1_5, rfl, rfl, BA3_92, (by rw [hth]; exact slot_app rfl), (by rw [hth]; exact own_more ow3 rfl), ge3, ne3_92, ho1_5, (by rw [hth]; exact oA3_5), ge1L_5, ne1L_5_92, sp3_5, by omega, by omega, (fun k hk => (AP3.blk k hk).elim (hs9 k) (fun h => by omega))⟩
    ·
     subst hw
     refine lx_value (want_if (j := 7) (d := 51) (x := true) (y := true) rfl rfl (by decide) rfl) (rn_not rfl) ?_
     refine lx_value (want rfl) (pick_t rfl rfl) ?_
     refine lx_nil ?_
     refine wk_cond_t rfl ?_
     refine wk_seq ?_
     refine wk_region ?_
     refine lx_value (want rfl) (mv_slice ho1_5) ?_
     refine lx_value (want rfl) (mv_int rfl) ?_
     refine lx_value (want rfl) (rn_mul rfl rfl (by omega)) ?_
     refine lx_value (want rfl) (mv_int rfl) ?_
     refine lx_value (want rfl) (rn_add rfl rfl (by omega)) ?_
     refine lx_value (want rfl) (rn_index (8 * (q.1 % 4) + q.2.1 % 5) Tryz.underlying96 sz_4 rfl rfl (by omega) (by omega)) ?_
     have hOw4 := (((((ow1L_5.ext E2).ext E3).ext E4).ext Eb2).ne Es1 (fun h => nb2 _ h rfl))
     refine lx_owncell (j := ((8 * (q.1 % 4) + q.2.1 % 5) * 1)) (want rfl) sz_4 rfl (t_bool rfl) rfl rfl rfl hOw4 (by omega) ?_
     intro w9 E5' HO4
     have E5 : Fr (ob (some (⟨bW, oW, none⟩ : Addr))) _ _ := E5'.mono (fun i _ hi => ⟨_, _, by subst hi; rfl⟩)
     have F11 := F8.new E5 ge1L_5
     have hz5 := E5.size
     have hN4 := HO4; rw [bool_set1 (by rw [hTI.wl]; omega)] at hN4
     have hth := th_w hq (by omega) hgd
     refine lx_nil ?_
     refine wk_mix 24 (fun kS => match kS with | 1 => .val (.agg #[.int .u8 4, .int .i64 ((q.1 % 4 : Nat) : Int)]) | 3 => .val (.agg #[.int .u8 1, .int .i64 ((q.2.1 % 5 : Nat) : Int)]) | 5 => .val (.agg #[.int .u8 1, .int .i64 (i : Int)]) | 10 => .val (.agg #[.int .u8 4, .int .i64 ((i % 4 : Nat) : Int)]) | 11 => .val (.agg #[.int .u8 3, .int .i64 0]) | 15 => .val (.agg #[.int .u8 5, .int .i64 ((1 + i % 5 : Nat) : Int)]) | _ => .none) (by kernel_rfl) (by kernel_rfl) (by intro kS G hk; (try dsimp only at hk); (split at hk) <;> first | (cases hk; done) | (injection hk with hk; subst hk; exact ⟨by intro j hkj I v w w' hR hG; first | exact hG, fun ⟨_, _, _, _, hs⟩ => by (try dsimp only at hs); split at hs <;> cases hs⟩)) (by intro kS s y G hk; (try dsimp only at hk); split at hk <;> cases hk) ?_
     simp only [List.take_succ_cons, List.take_zero, List.take_nil, List.drop_succ_cons, List.drop_zero, List.drop_nil]
     refine mx_calm rfl (want rfl) (fun u18 eu18 fu18 => mv_int rfl) ?_
     refine mx_val rfl (want rfl) (fun u19 eu19 fu19 => do_call (ent_func cf_61 (argsC (t_int rfl) args0)) (ref_ct _ u19) (fun _ _ E h => ⟨E, h⟩)) ?_
     refine mx_calm rfl (want rfl) (fun u20 eu20 fu20 => mv_int rfl) ?_
     refine mx_val rfl (want rfl) (fun u21 eu21 fu21 => do_call (ent_func cf_41 (argsC (t_int rfl) args0)) (int_ct _ u21) (fun _ _ E h => ⟨E, h⟩)) ?_
     refine mx_calm rfl (want rfl) (fun u22 eu22 fu22 => mv_int hs1_6) ?_
     refine mx_val rfl (want rfl) (fun u23 eu23 fu23 => do_call (ent_func cf_41 (argsC (t_int rfl) args0)) (int_ct _ u23) (fun _ _ E h => ⟨E, h⟩)) ?_
     refine mx_calm rfl (want rfl) (fun u24 eu24 fu24 => mv_int hs1_6) ?_
     refine mx_calm rfl (want rfl) (fun u25 eu25 fu25 => mv_slice (A1.at 4 rfl rfl)) ?_
     refine mx_calm rfl (want rfl) (fun u26 eu26 fu26 => rn_len Tryz.underlying77 rfl) ?_
     refine mx_calm (v := .int .i64 ((i % 4 : Nat) : Int)) rfl (want rfl) (fun u27 eu27 fu27 => (rn_remN (n := 4) rfl rfl (by decide))) ?_
     refine mx_val rfl (want rfl) (fun u28 eu28 fu28 => do_call (ent_func cf_61 (argsC (t_int rfl) args0)) (ref_ct _ u28) (fun _ _ E h => ⟨E, h⟩)) ?_
     refine mx_val rfl (want rfl) (fun u29 eu29 fu29 => do_call (ent_func cf_66 args0) (nil_ct u29) (fun _ _ E h => ⟨E, h⟩)) ?_
     refine mx_calm rfl (want rfl) (fun u30 eu30 fu30 => mv_int hs1_6) ?_
     refine mx_calm (v := .int .i64 ((i % 5 : Nat) : Int)) rfl (want rfl) (fun u31 eu31 fu31 => (rn_remN (n := 5) rfl rfl (by decide))) ?_
     refine mx_calm (v := .int .i64 ((1 + i % 5 : Nat) : Int)) rfl (want rfl) (fun u32 eu32 fu32 => (rn_oneadd rfl rfl (by omega))) ?_
     refine mx_val rfl (want rfl) (fun u33 eu33 fu33 => do_call (ent_func cf_67 (argsC (t_int rfl) args0)) (refbad_ct _ u33) (fun _ _ E h => ⟨E, h⟩)) ?_
     refine mx_calm rfl (want rfl) (fun u34 eu34 fu34 => rn_build4 (t_agg rfl) (t_agg rfl) (t_agg rfl) (t_agg rfl) (fun w => bd_142_0_1_2_3 _ _ _ _ _ _ _ _ w)) ?_
     refine mx_calm rfl (want rfl) (fun u35 eu35 fu35 => mv_slice (A1.at 0 rfl rfl)) ?_
     refine mx_calm rfl (want rfl) (fun u36 eu36 fu36 => mv_int hs1_6) ?_
     refine mx_calm rfl (want rfl) (fun u37 eu37 fu37 => rn_index i Tryz.underlying70 sz_141 rfl rfl rfl (by omega)) ?_
     refine mx_calm rfl (want rfl) (fun u38 eu38 fu38 => rn_indexA 2 Tryz.underlying141 sz_5 rfl rfl rfl (by decide)) ?_
     refine mx_calm rfl (want rfl) (fun u39 eu39 fu39 => rn_load1 ag_5 rfl ((F11.ext ((ext_drawn _).trans' eu39)).cell (fun h => h) (hcx 2 _ rfl))) ?_
     refine mx_calm (v := .int .u8 ((q.2.2.1 / 3 : Nat) : Int)) rfl (want rfl) (fun u40 eu40 fu40 => (rn_quo8 (n := 3) rfl rfl (by omega) (by decide))) ?_
     refine mx_calm (v := .int .u8 ((q.2.2.1 / 3 % 4 : Nat) : Int)) rfl (want rfl) (fun u41 eu41 fu41 => (rn_remN (n := 4) rfl rfl (by decide))) ?_
     refine mx_nil (fun w10 E6' H2 HS => ?_)
     have E6 := (ext_drawn _).trans' E6'
     have F12 := F11.ext E6
     have hz6 := E6.size
     refine lx_value (v := .agg #[.int .u8 (thV q.2.2.1 i).1, .int .i64 (thV q.2.2.1 i).2]) (want rfl) ((rn_idx4 idx142 (v0 := (1, (i : Int))) (v1 := (4, ((i % 4 : Nat) : Int))) (v2 := (3, 0)) (v3 := (5, ((1 + i % 5 : Nat) : Int))) rfl rfl (Nat.mod_lt _ (by decide)) rfl)) ?_
     refine lx_value (want rfl) (rn_build4 (t_int rfl) (t_agg rfl) (t_agg rfl) (t_agg rfl) (fun w => bd_38_0_1_2_3 _ _ _ _ _ _ _ w)) ?_
     refine lx_set (want rfl) sz_38 rfl (t_agg rfl) rfl rfl rfl ((Bs1.fr E5 (fun h => nb2 _ h rfl)).ext E6) (Nat.le_of_ble_eq_true rfl) ?_
     intro w11 Es2 Bs2
     have F13 := F12.set Es2 (by omega)
     have hzs2 := Es2.size
     refine lx_nil ?_
     refine wk_region ?_
     refine lx_value (want rfl) (mv_slice ho1_9) ?_
     refine lx_value (want rfl) (rn_loadBlk ag_38 sz_38 rfl Bs2 rfl rfl) ?_
     refine lx_newS (want rfl) (rn_bslice (xs := [.tmp 94]) Tryz.underlying25 sz_38 ze_38 rfl (argsC (t_agg rfl) args0) (CL.cons rfl rfl CL.nil) rfl (Nat.le_of_ble_eq_true rfl)) ?_
     intro b4 w12 hb4 Eb4 B4 hlb4
     have F14 := F13.ext Eb4
     have hzb4 := Eb4.size
     have nb5 : ∀ k, ob so1_9 k → k ≠ b4 := fun k hk => by have := (ow1L_9).lt hk; omega
     have nb6 : ∀ k, ob (some (⟨bW, oW, none⟩ : Addr)) k → k ≠ b4 := fun k hk => by have := (hN4).lt hk; omega
     refine lx_append 64 (want rfl) Tryz.underlying25 ti_38 (by decide) rfl (by decide) rfl rfl (((((((((ow1L_9.ext E2).ext E3).ext E4).ext Eb2).ne Es1 (fun h => nb1 _ h rfl)).fr E5 (fun k h1 h2 => (fun k h1 h2 => sp1L_9_5 k h2 h1) k h2 h1)).ext E6).ne Es2 (fun h => nb1 _ h rfl)).ext Eb4) ((Src.blk B4 rfl rfl)) (by have := hTI.len; omega) ?_
     intro sq5 cq5 w13 AP5
     have EA5 := AP5.fr
     have ow5 := AP5.own
     have ge5 : ∀ k, ob sq5 k → w0.heap.size ≤ k := fun k hk => (AP5.blk k hk).elim (ge1L_9 k) (fun h => (Nat.le_trans F14.size h))
     have ne5_92 : ∀ k, ob sq5 k → k ≠ bN := fun k hk => (AP5.blk k hk).elim (ne1L_9_92 k) (fun h => by have := ((((((((((BL1_92.ext E2).ext E3).ext E4).ext Eb2).ne Es1 (by omega)).fr E5 (fun h => ne1L_5_92 _ h rfl)).ext E6).ne Es2 (by omega)).ext Eb4)).lt; omega)
     have ne5_2 : ∀ k, ob sq5 k → k ≠ b2 := fun k hk => (AP5.blk k hk).elim (nb1 k) (fun h => by have := ((Bs2.ext Eb4)).lt; omega)
     have ne5_4 : ∀ k, ob sq5 k → k ≠ b4 := fun k hk => (AP5.blk k hk).elim (nb5 k) (fun h => by have := (B4).lt; omega)
     have sp5_5 : ∀ k, ob sq5 k → ob (some (⟨bW, oW, none⟩ : Addr)) k → False := fun k hk h2 => (AP5.blk k hk).elim (fun h => sp1L_9_5 k h h2) (fun h => by have := ((((hN4.ext E6).ne Es2 (fun h => nb2 _ h rfl)).ext Eb4)).lt h2; omega)
     have F15 := F14.new EA5 ge1L_9
     have hzA5 := EA5.size
     have BA5_92 := (((((((((BL1_92.ext E2).ext E3).ext E4).ext Eb2).ne Es1 (by omega)).fr E5 (fun h => ne1L_5_92 _ h rfl)).ext E6).ne Es2 (by omega)).ext Eb4).fr EA5 (fun h => ne1L_9_92 _ h rfl)
     have BA5_2 := (Bs2.ext Eb4).fr EA5 (fun h => nb1 _ h rfl)
     have BA5_4 := B4.fr EA5 (fun h => nb5 _ h rfl)
     have oA5_5 := (((hN4.ext E6).ne Es2 (fun h => nb2 _ h rfl)).ext Eb4).fr EA5 (fun k h1 h2 => sp1L_9_5 k h2 h1)
     have sr5_5 : ∀ k, ob (some (⟨bW, oW, none⟩ : Addr)) k → ob sq5 k → False := fun k h1 h2 => sp5_5 k h2 h1
     refine lx_value (want rfl) (as_slice rfl) ?_
     refine lx_nil ?_
     refine wk_region ?_
     refine lx_value (want rfl) (mv_int hs1_6) ?_
     refine lx_value (want rfl) (rn_add rfl rfl (by omega)) ?_
     refine lx_value (want rfl) (as_int rfl) ?_
     refine lx_nil ?_
     exact ⟨rfl, (((((((((((((((((((((((((((((((((((((((((((((((((((((((((((((((((((((((((((((((((((((((((((((A1.up rfl _).up rfl _).up rfl _).up rfl _).up rfl _).up rfl _).up rfl _).up rfl _).up rfl _).up rfl _).up rfl _).up rfl _).up rfl _).up rfl _).up rfl _).up rfl _).up rfl _).up rfl _).up rfl _).up rfl _).up rfl _).up rfl _).up rfl _).up rfl _).up rfl _).up rfl _).up rfl _).up rfl _).up rfl _).up rfl _).up rfl _).up rfl _).up rfl _).none _).up rfl _).up rfl _).up rfl _).up rfl _).up rfl _).up rfl _).up rfl _).up rfl _).up rfl _).up rfl _).up rfl _).up rfl _).up rfl _).up rfl _).up rfl _).up rfl _).up rfl _).up rfl _).up rfl _).up rfl _).up rfl _).up rfl _).up rfl _).none _).up rfl _).up rfl _).up rfl _).up rfl _).up rfl _).up rfl _).up rfl _).up rfl _).up rfl _).up rfl _).up rfl _).up rfl _).up rfl _).up rfl _).up rfl _).up rfl _).up rfl _).up rfl _).up rfl _).up rfl _).up rfl _).up rfl _).up rfl _).up rfl _).up rfl _).up rfl _).none _).up rfl _).up rfl _).up rfl _).up rfl _).up rfl _).up rfl _).up rfl _).up rfl _), Fr.between F2 F15 (by omega), _, (by omega), i + 1, sq5, cq5, (some (⟨bW, oW, none⟩ : Addr)), co1_5, rfl, rfl, BA5_92, (by rw [hth]; exact slot_app rfl), (by rw [hth]; exact own_more ow5 rfl), ge5, ne5_92, ho1_5, (by rw [hth]; exact oA5_5), ge1L_5, ne1L_5_92, sp5_5, by omega, by omega, (fun k hk => (AP5.blk k hk).elim (hs9 k) (fun h => by omega))⟩
   ·
    have hth := th_r hq (fun g => by have := g.1; omega)
    refine lx_value (want rfl) (mv_bool rfl) ?_
    refine lx_skip (want_if (j := 7) (d := 51) (x := true) (y := false) rfl rfl (by decide) rfl) ?_
    refine lx_skip (want_if (j := 7) (d := 51) (x := true) (y := false) rfl rfl (by decide) rfl) ?_
    refine lx_skip (want_if (j := 7) (d := 51) (x := true) (y := false) rfl rfl (by decide) rfl) ?_
    refine lx_skip (want_if (j := 7) (d := 51) (x := true) (y := false) rfl rfl (by decide) rfl) ?_
    refine lx_skip (want_if (j := 7) (d := 51) (x := true) (y := false) rfl rfl (by decide) rfl) ?_
    refine lx_skip (want_if (j := 7) (d := 51) (x := true) (y := false) rfl rfl (by decide) rfl) ?_
    refine lx_skip (want_if (j := 7) (d := 51) (x := true) (y := false) rfl rfl (by decide) rfl) ?_
    refine lx_skip (want_if (j := 7) (d := 51) (x := true) (y := false) rfl rfl (by decide) rfl) ?_
    refine lx_value (want rfl) (pick_f rfl rfl) ?_
    refine lx_nil ?_
    refine wk_cond_f rfl ?_
    refine wk_skip ?_
    refine wk_region ?_
    refine lx_value (want rfl) (mv_slice ho1_9) ?_
    refine lx_value (want rfl) (rn_loadBlk ag_38 sz_38 rfl Bs1 rfl rfl) ?_
    refine lx_newS (want rfl) (rn_bslice (xs := [.tmp 94]) Tryz.underlying25 sz_38 ze_38 rfl (argsC (t_agg rfl) args0) (CL.cons rfl rfl CL.nil) rfl (Nat.le_of_ble_eq_true rfl)) ?_
    intro b5 w9 hb5 Eb5 B5 hlb5
    have F16 := F8.ext Eb5
    have hzb5 := Eb5.size
    have nb7 : ∀ k, ob so1_9 k → k ≠ b5 := fun k hk => by have := (ow1L_9).lt hk; omega
    have nb8 : ∀ k, ob (some (⟨bW, oW, none⟩ : Addr)) k → k ≠ b5 := fun k hk => by have := (ow1L_5).lt hk; omega
    refine lx_append 64 (want rfl) Tryz.underlying25 ti_38 (by decide) rfl (by decide) rfl rfl ((((((ow1L_9.ext E2).ext E3).ext E4).ext Eb2).ne Es1 (fun h => nb1 _ h rfl)).ext Eb5) ((Src.blk B5 rfl rfl)) (by have := hTI.len; omega) ?_
    intro sq6 cq6 w10 AP6
    have EA6 := AP6.fr
    have ow6 := AP6.own
    have ge6 : ∀ k, ob sq6 k → w0.heap.size ≤ k := fun k hk => (AP6.blk k hk).elim (ge1L_9 k) (fun h => (Nat.le_trans F16.size h))
    have ne6_92 : ∀ k, ob sq6 k → k ≠ bN := fun k hk => (AP6.blk k hk).elim (ne1L_9_92 k) (fun h => by have := (((((((BL1_92.ext E2).ext E3).ext E4).ext Eb2).ne Es1 (by omega)).ext Eb5)).lt; omega)
    have ne6_2 : ∀ k, ob sq6 k → k ≠ b2 := fun k hk => (AP6.blk k hk).elim (nb1 k) (fun h => by have := ((Bs1.ext Eb5)).lt; omega)
    have ne6_5 : ∀ k, ob sq6 k → k ≠ b5 := fun k hk => (AP6.blk k hk).elim (nb7 k) (fun h => by have := (B5).lt; omega)
    have sp6_5 : ∀ k, ob sq6 k → ob (some (⟨bW, oW, none⟩ : Addr)) k → False := fun k hk h2 => (AP6.blk k hk).elim (fun h => sp1L_9_5 k h h2) (fun h => by have := (((((((ow1L_5.ext E2).ext E3).ext E4).ext Eb2).ne Es1 (fun h => nb2 _ h rfl)).ext Eb5)).lt h2; omega)
    have F17 := F16.new EA6 ge1L_9
    have hzA6 := EA6.size
    have BA6_92 := ((((((BL1_92.ext E2).ext E3).ext E4).ext Eb2).ne Es1 (by omega)).ext Eb5).fr EA6 (fun h => ne1L_9_92 _ h rfl)
    have BA6_2 := (Bs1.ext Eb5).fr EA6 (fun h => nb1 _ h rfl)
    have BA6_5 := B5.fr EA6 (fun h => nb7 _ h rfl)
    have oA6_5 := ((((((ow1L_5.ext E2).ext E3).ext E4).ext Eb2).ne Es1 (fun h => nb2 _ h rfl)).ext Eb5).fr EA6 (fun k h1 h2 => sp1L_9_5 k h2 h1)
    have sr6_5 : ∀ k, ob (some (⟨bW, oW, none⟩ : Addr)) k → ob sq6 k → False := fun k h1 h2 => sp6_5 k h2 h1
    refine lx_value (want rfl) (as_slice rfl) ?_
    refine lx_nil ?_
    refine wk_region ?_
    refine lx_value (want rfl) (mv_int hs1_6) ?_
    refine lx_value (want rfl) (rn_add rfl rfl (by omega)) ?_
    refine lx_value (want rfl) (as_int rfl) ?_
    refine lx_nil ?_
    exact ⟨rfl, (((((((((((((((((((((((((((((((((((((((((((((((((((((((((((A1.up rfl _).up rfl _).up rfl _).up rfl _).up rfl _).up rfl _).up rfl _).up rfl _).up rfl _).up rfl _).up rfl _).up rfl _).up rfl _).up rfl _).up rfl _).up rfl _).up rfl _).up rfl _).up rfl _).up rfl _).up rfl _).up rfl _).up rfl _).up rfl _).up rfl _).up rfl _).up rfl _).up rfl _).up rfl _).up rfl _).up rfl _).up rfl _).up rfl _).none _).up rfl _).up rfl _).up rfl _).up rfl _).up rfl _).up rfl _).up rfl _).up rfl _).up rfl _).up rfl _).up rfl _).up rfl _).up rfl _).up rfl _).up rfl _).up rfl _).up rfl _).up rfl _).up rfl _).up rfl _).up rfl _).up rfl _).up rfl _).up rfl _).up rfl _), Fr.between F2 F17 (by omega), _, (by omega), i + 1, sq6, cq6, (some (⟨bW, oW, none⟩ : Addr)), co1_5, rfl, rfl, BA6_92, (by rw [hth]; exact slot_app rfl), (by rw [hth]; exact own_more ow6 rfl), ge6, ne6_92, ho1_5, (by rw [hth]; exact oA6_5), ge1L_5, ne1L_5_92, sp6_5, by omega, by omega, (fun k hk => (AP6.blk k hk).elim (hs9 k) (fun h => by omega))⟩
  ·
   refine lx_value (want rfl) (pick_t rfl rfl) ?_
   refine lx_nil ?_
   refine wk_cond_f rfl ?_
   refine wk_exit ?_
   refine wk_seq ?_
   refine wk_region ?_
   refine lx_value (want rfl) (mv_slice ho1_9) ?_
   refine lx_value (want rfl) (as_slice rfl) ?_
   refine lx_nil ?_
   refine wk_ret ?_
   refine retR1 Tryz.results46 (.tmp (t_slice rfl)) F3 ?_
   have e4 : i = thN x := by unfold thN; omega
   subst e4
   exact ⟨_, _, rfl, (ow1L_9).sl (by decide) rfl (fun _ _ => rfl) (fun k hk => ⟨hs9 k hk, (ow1L_9).lt hk⟩)⟩
 ·
  refine lx_value (want rfl) (mv_bool rfl) ?_
  refine lx_skip (want_if (j := 4) (d := 16) (x := true) (y := false) rfl rfl (by decide) rfl) ?_
  refine lx_skip (want_if (j := 4) (d := 16) (x := true) (y := false) rfl rfl (by decide) rfl) ?_
  refine lx_value (want rfl) (pick_f rfl rfl) ?_
  refine lx_nil ?_
  refine wk_cond_f rfl ?_
  refine wk_exit ?_
  refine wk_seq ?_
  refine wk_region ?_
  refine lx_value (want rfl) (mv_slice ho1_9) ?_
  refine lx_value (want rfl) (as_slice rfl) ?_
  refine lx_nil ?_
  refine wk_ret ?_
  refine retR1 Tryz.results46 (.tmp (t_slice rfl)) F3 ?_
  have e4 : i = thN x := by unfold thN; omega
  subst e4
  exact ⟨_, _, rfl, (ow1L_9).sl (by decide) rfl (fun _ _ => rfl) (fun k hk => ⟨hs9 k hk, (ow1L_9).lt hk⟩)⟩

set_option maxHeartbeats 2000000 in
set_option maxRecDepth 100000 in
theorem given_ct (l : List Op) (s : Option Addr) (c : Nat) (F : Nat → Prop) (g : List Vl) (s2 : Option Addr) (c2 : Nat) (F2 : Nat → Prop) (tl : List Tl) (s3 : Option Addr) (c3 : Nat) (F3 : Nat → Prop) (hll : l.length ≤ 1048576) (htl : tl.length ≤ 1048576) (hnd : ((evZ l g ++ tl).map (·.1)).Nodup) (hrd : ∀ e ∈ (evZ l g ++ tl), ∃ r : Nat, e.1 = (r : Int) ∧ r < 24) (w0 : World) (hl : OpS F w0 s l) (hg : VlS F2 w0 s2 g) (ht : TlS F3 w0 s3 tl) :
  CT Tryz.prog 48 [.slice s l.length c, .slice s2 g.length c2, .slice s3 tl.length c3] w0 no (fun v w => ∃ s' c', v = .tuple #[.slice s' 24 c', .bool true] ∧ VlS (Iv w0.heap.size w.heap.size) w s' (outL (evZ l g ++ tl))) := by
 have F0 := Fr.refl no w0
 refine ct_body Tryz.func48 rfl Tryz.ntmps48 (Nat.le_of_ble_eq_true rfl) ?_
 refine wk_seq ?_
 refine wk_region ?_
 refine lx_value (want rfl) (as_slice rfl) ?_
 refine lx_value (want rfl) (as_bool rfl) ?_
 refine lx_nil ?_
 refine wk_seq ?_
 refine wk_region ?_
 refine lx_newS (want rfl) (rn_makeSliceN (n := 24) Tryz.underlying30 ti_36 rfl (by decide) rfl rfl rfl (by decide)) ?_
 intro b1 w1 hb1 Eb1 B1 hlb1
 have F1 := F0.ext Eb1
 have hzb1 := Eb1.size
 refine lx_new (want rfl) (rn_alloc ze_30) ?_
 intro b2 w2 hb2 Eb2 B2 hlb2
 have F2 := F1.ext Eb2
 have hzb2 := Eb2.size
 refine lx_set (want rfl) sz_30 rfl (t_slice rfl) rfl rfl rfl B2 (Nat.le_of_ble_eq_true rfl) ?_
 intro w3 Es1 Bs1
 have F3 := F2.set Es1 (by omega)
 have hzs1 := Es1.size
 refine lx_nil ?_
 refine wk_seq ?_
 refine wk_region ?_
 refine lx_newS (want rfl) (rn_makeSlice Tryz.underlying77 ti_3 rfl rfl rfl (by decide)) ?_
 intro b3 w4 hb3 Eb3 B3 hlb3
 have F4 := F3.ext Eb3
 have hzb3 := Eb3.size
 refine lx_new (want rfl) (rn_alloc ze_77) ?_
 intro b4 w5 hb4 Eb4 B4 hlb4
 have F5 := F4.ext Eb4
 have hzb4 := Eb4.size
 refine lx_set (want rfl) sz_77 rfl (t_slice rfl) rfl rfl rfl B4 (Nat.le_of_ble_eq_true rfl) ?_
 intro w6 Es2 Bs2
 have F6 := F5.set Es2 (by omega)
 have hzs2 := Es2.size
 refine lx_nil ?_
 refine wk_seq ?_
 refine wk_region ?_
 refine lx_value (want rfl) (rn_makeFunc (argsC (t_pointer rfl) (argsC (t_pointer rfl) args0))) ?_
 refine lx_value (want rfl) (as_func rfl) ?_
 obtain ⟨Z5, hG0, hGi⟩ := go_new (lo := w0.heap.size) (((Bs1.ext Eb3).ext Eb4).ne Es2 (by omega)) Bs2 (((((B1.ext Eb2).ne Es1 (by omega)).ext Eb3).ext Eb4).ne Es2 (by omega)) ((B3.ext Eb4).ne Es2 (by omega)) (by omega) (by omega) (by omega) (by omega) (by omega) (by omega) (by omega) (by omega) (by omega) (by omega)
 have hinc := fun (k : Nat) (hk : zz zn Z5 k) => (Or.inr (hGi k hk) : zz none (fun _ => False) k ∨ w0.heap.size ≤ k)
 have tg2 : ∀ k, zz zn Z5 k → w0.heap.size ≤ k := fun k hk => (hinc k hk).elim ((fun _ h => zz_nil h) k) (fun h => by omega)
 refine lx_nil ?_
 refine wk_seq ?_
 refine wk_seq ?_
 refine wk_region ?_
 refine lx_value (want rfl) (as_int rfl) ?_
 refine lx_nil ?_
 refine wk_block ?_
 refine wk_loopA [6, 7, 11, 16, 17, 18, 19, 20, 21, 22, 23, 24, 25, 26, 27, 28, 29, 30, 31, 32, 33, 34, 35, 36, 37, 38, 39, 40, 41, 42, 43, 44, 45, 46, 47, 48, 49, 50, 51, 52, 53, 54, 55, 56] (fun j => no j ∨ w0.heap.size ≤ j) (fun nM ρ w => ∃ (i : Nat) (TT1_5 : Nat → Prop), nM = l.length - i ∧ ρ 11 = .int .i64 i ∧ GO TT1_5 w b2 b4 (evN l g i) ∧ (∀ k, zz zn TT1_5 k → w0.heap.size ≤ k) ∧ (i ≤ l.length)) _ ⟨0, Z5, rfl, rfl, hG0, tg2, Nat.zero_le _⟩ ?_
 rintro n1 ρ1 w7 A1 EL1 ⟨i, TT1_5, rfl, hs1_11, tw1L_5, tg1L_5, hi⟩
 have F7 := F6.wide EL1
 have hzL1 := EL1.size
 refine wk_seq ?_
 refine wk_seq ?_
 refine wk_region ?_
 refine lx_value (want rfl) (mv_int hs1_11) ?_
 refine lx_value (want rfl) (mv_slice (A1.at 0 rfl rfl)) ?_
 refine lx_value (want rfl) (rn_len Tryz.underlying25 rfl) ?_
 refine lx_value (want rfl) (rn_lss rfl rfl) ?_
 refine lx_dec (fun hl1 => ?_) (fun hl1 => ?_)
 ·
  refine lx_value (want rfl) (mv_bool rfl) ?_
  refine lx_value (want_if (j := 4) (d := 20) (x := true) (y := true) rfl rfl (by decide) rfl) (mv_int hs1_11) ?_
  refine lx_value (want_if (j := 4) (d := 20) (x := true) (y := true) rfl rfl (by decide) rfl) (mv_slice (A1.at 1 rfl rfl)) ?_
  refine lx_value (want_if (j := 4) (d := 20) (x := true) (y := true) rfl rfl (by decide) rfl) (rn_len Tryz.underlying30 rfl) ?_
  refine lx_value (want_if (j := 4) (d := 20) (x := true) (y := true) rfl rfl (by decide) rfl) (rn_lss rfl rfl) ?_
  refine lx_dec (fun hl2 => ?_) (fun hl2 => ?_)
  ·
   obtain ⟨o, ho⟩ := getx hl1
   obtain ⟨vq, hv⟩ := getx hl2
   obtain ⟨bo_, oo, rfl, _, hco⟩ := hl i o ho
   obtain ⟨bv, ov, rfl, _, hcv⟩ := hg i vq hv
   refine lx_value (want rfl) (pick_t rfl rfl) ?_
   refine lx_nil ?_
   refine wk_cond_t rfl ?_
   refine wk_skip ?_
   refine wk_seq ?_
   refine wk_block ?_
   refine wk_seq ?_
   refine wk_mix 25 (fun _ => .none) (by kernel_rfl) (by kernel_rfl) (fun kS G hk => by cases hk) (fun kS s y G hk => by cases hk) ?_
   simp only [List.take_succ_cons, List.take_zero, List.take_nil, List.drop_succ_cons, List.drop_zero, List.drop_nil]
   refine mx_calm rfl (want rfl) (fun u1 eu1 fu1 => mv_slice (A1.at 0 rfl rfl)) ?_
   refine mx_calm rfl (want rfl) (fun u2 eu2 fu2 => mv_int hs1_11) ?_
   refine mx_calm rfl (want rfl) (fun u3 eu3 fu3 => rn_index i Tryz.underlying25 sz_38 rfl rfl rfl (by omega)) ?_
   refine mx_calm rfl (want rfl) (fun u4 eu4 fu4 => rn_fieldAddr fa_38_0 rfl) ?_
   refine mx_calm rfl (want rfl) (fun u5 eu5 fu5 => rn_load1 ag_5 rfl ((F7.ext ((ext_drawn _).trans' eu5)).cell (fun h => h) (hco 0 _ rfl))) ?_
   refine mx_calm rfl (want rfl) (fun u6 eu6 fu6 => rn_eql rfl rfl) ?_
   refine mx_dec (fun h3 => ?_) (fun h3 => ?_)
   ·
    refine mx_calm rfl (want rfl) (fun u7 eu7 fu7 => mv_bool rfl) ?_
    refine mx_calm rfl (want_if (j := 6) (d := 34) (x := true) (y := true) rfl rfl (by decide) rfl) (fun u8 eu8 fu8 => mv_slice (A1.at 1 rfl rfl)) ?_
    refine mx_calm rfl (want_if (j := 6) (d := 34) (x := true) (y := true) rfl rfl (by decide) rfl) (fun u9 eu9 fu9 => mv_int hs1_11) ?_
    refine mx_calm rfl (want_if (j := 6) (d := 34) (x := true) (y := true) rfl rfl (by decide) rfl) (fun u10 eu10 fu10 => rn_index i Tryz.underlying30 sz_36 rfl rfl rfl (by omega)) ?_
    refine mx_calm rfl (want_if (j := 6) (d := 34) (x := true) (y := true) rfl rfl (by decide) rfl) (fun u11 eu11 fu11 => rn_fieldAddr fa_36_0 rfl) ?_
    refine mx_calm rfl (want_if (j := 6) (d := 34) (x := true) (y := true) rfl rfl (by decide) rfl) (fun u12 eu12 fu12 => rn_load1 ag_5 rfl ((F7.ext ((ext_drawn _).trans' eu12)).cell (fun h => h) (hcv 0 _ rfl))) ?_
    refine mx_calm rfl (want_if (j := 6) (d := 34) (x := true) (y := true) rfl rfl (by decide) rfl) (fun u13 eu13 fu13 => rn_neq rfl rfl) ?_
    refine mx_dec (fun h0 => ?_) (fun h0 => ?_)
    ·
     have hon := evN_yes ho hv h3 h0
     obtain ⟨t9, ht9⟩ := evN_pre l g (i + 1)
     rw [hon] at ht9
     obtain ⟨r, hr1, hr⟩ := hrd (o.rd, vq) (by rw [ht9]; simp)
     have hnew := new_reader hnd ht9
     dsimp only at hr1
     refine mx_calm rfl (want rfl) (fun u14 eu14 fu14 => pick_t rfl rfl) ?_
     refine mx_calm rfl (want rfl) (fun u15 eu15 fu15 => mv_bool rfl) ?_
     refine mx_calm rfl (want_if (j := 14) (d := 42) (x := true) (y := true) rfl rfl (by decide) rfl) (fun u16 eu16 fu16 => mv_func (A1.at 10 rfl rfl)) ?_
     refine mx_calm rfl (want_if (j := 14) (d := 42) (x := true) (y := true) rfl rfl (by decide) rfl) (fun u17 eu17 fu17 => mv_slice (A1.at 0 rfl rfl)) ?_
     refine mx_calm rfl (want_if (j := 14) (d := 42) (x := true) (y := true) rfl rfl (by decide) rfl) (fun u18 eu18 fu18 => mv_int hs1_11) ?_
     refine mx_calm rfl (want_if (j := 14) (d := 42) (x := true) (y := true) rfl rfl (by decide) rfl) (fun u19 eu19 fu19 => rn_index i Tryz.underlying25 sz_38 rfl rfl rfl (by omega)) ?_
     refine mx_calm rfl (want_if (j := 14) (d := 42) (x := true) (y := true) rfl rfl (by decide) rfl) (fun u20 eu20 fu20 => rn_fieldAddr fa_38_4 rfl) ?_
     refine mx_calm rfl (want_if (j := 14) (d := 42) (x := true) (y := true) rfl rfl (by decide) rfl) (fun u21 eu21 fu21 => rn_load1 ag_3 rfl ((F7.ext ((ext_drawn _).trans' eu21)).cell (fun h => h) (hco 7 _ rfl))) ?_
     refine mx_calm rfl (want_if (j := 14) (d := 42) (x := true) (y := true) rfl rfl (by decide) rfl) (fun u22 eu22 fu22 => mv_slice (A1.at 1 rfl rfl)) ?_
     refine mx_calm rfl (want_if (j := 14) (d := 42) (x := true) (y := true) rfl rfl (by decide) rfl) (fun u23 eu23 fu23 => mv_int hs1_11) ?_
     refine mx_calm rfl (want_if (j := 14) (d := 42) (x := true) (y := true) rfl rfl (by decide) rfl) (fun u24 eu24 fu24 => rn_index i Tryz.underlying30 sz_36 rfl rfl rfl (by omega)) ?_
     refine mx_calm rfl (want_if (j := 14) (d := 42) (x := true) (y := true) rfl rfl (by decide) rfl) (fun u25 eu25 fu25 => rn_load2 ag_36 sz_36 rfl ((F7.ext ((ext_drawn _).trans' eu25)).cell (fun h => h) (hcv 0 _ rfl)) ((F7.ext ((ext_drawn _).trans' eu25)).cell (fun h => h) (hcv 1 _ rfl))) ?_
     refine mx_nil (fun w8 E1' H1 HS => ?_)
     have E1 := (ext_drawn _).trans' E1'
     have F8 := F7.ext E1
     have hz1 := E1.size
     refine lx_call (want_if (j := 14) (d := 42) (x := true) (y := true) rfl rfl (by decide) rfl) (ent_value cf_93 rfl (argsC (t_int rfl) (argsC (t_agg rfl) args0))) (given1_ct TT1_5 b2 b4 (evN l g i) r hr o.rd hr1 vq (fun e he => by have := hnew e he; rw [← hr1]; exact this) w8 (tw1L_5.ext E1)) ?_
     rintro _ w9 E2 ⟨rfl, Z2, hM2, hi2⟩
     have F9 := F8.new E2 (fun k h => tg1L_5 k h)
     have hz2 := E2.size
     rw [← hr1, ← hon] at hM2
     have tg3 : ∀ k, zz zn Z2 k → w0.heap.size ≤ k := fun k hk => (hi2 k hk).elim (tg1L_5 k) (fun h => by omega)
     refine lx_b_t (rfl) ?_
     refine lx_value (want_if (j := 14) (d := 42) (x := true) (y := true) rfl rfl (by decide) rfl) (rn_not rfl) ?_
     refine lx_value (want rfl) (pick_t rfl rfl) ?_
     refine lx_nil ?_
     refine wk_cond_f rfl ?_
     refine wk_skip ?_
     refine wk_region ?_
     refine lx_value (want rfl) (mv_int hs1_11) ?_
     refine lx_value (want rfl) (rn_add rfl rfl (by omega)) ?_
     refine lx_value (want rfl) (as_int rfl) ?_
     refine lx_nil ?_
     exact ⟨rfl, (((((((((((((((((((((((((((((((((((((((((A1.up rfl _).up rfl _).up rfl _).up rfl _).up rfl _).up rfl _).up rfl _).up rfl _).up rfl _).up rfl _).up rfl _).up rfl _).up rfl _).up rfl _).up rfl _).up rfl _).up rfl _).up rfl _).up rfl _).up rfl _).up rfl _).up rfl _).up rfl _).up rfl _).up rfl _).up rfl _).up rfl _).up rfl _).up rfl _).up rfl _).up rfl _).up rfl _).up rfl _).up rfl _).up rfl _).up rfl _).up rfl _).up rfl _).up rfl _).up rfl _).up rfl _), Fr.between F6 F9 (by omega), _, (by omega), i + 1, Z2, rfl, rfl, hM2, tg3, by omega⟩
    ·
     have hon := evN_no ho hv (fun g => h0 g.2)
     have hM4 := tw1L_5; rw [← hon] at hM4
     refine mx_calm rfl (want rfl) (fun u26 eu26 fu26 => pick_t rfl rfl) ?_
     refine mx_calm rfl (want rfl) (fun u27 eu27 fu27 => mv_bool rfl) ?_
     refine mx_skip (want_if (j := 14) (d := 42) (x := true) (y := false) rfl rfl (by decide) rfl) ?_
     refine mx_skip (want_if (j := 14) (d := 42) (x := true) (y := false) rfl rfl (by decide) rfl) ?_
     refine mx_skip (want_if (j := 14) (d := 42) (x := true) (y := false) rfl rfl (by decide) rfl) ?_
     refine mx_skip (want_if (j := 14) (d := 42) (x := true) (y := false) rfl rfl (by decide) rfl) ?_
     refine mx_skip (want_if (j := 14) (d := 42) (x := true) (y := false) rfl rfl (by decide) rfl) ?_
     refine mx_skip (want_if (j := 14) (d := 42) (x := true) (y := false) rfl rfl (by decide) rfl) ?_
     refine mx_skip (want_if (j := 14) (d := 42) (x := true) (y := false) rfl rfl (by decide) rfl) ?_
     refine mx_skip (want_if (j := 14) (d := 42) (x := true) (y := false) rfl rfl (by decide) rfl) ?_
     refine mx_skip (want_if (j := 14) (d := 42) (x := true) (y := false) rfl rfl (by decide) rfl) ?_
     refine mx_skip (want_if (j := 14) (d := 42) (x := true) (y := false) rfl rfl (by decide) rfl) ?_
     refine mx_nil (fun w8 E3' H2 HS => ?_)
     have E3 := (ext_drawn _).trans' E3'
     have F10 := F7.ext E3
     have hz3 := E3.size
     refine lx_skip (want_if (j := 14) (d := 42) (x := true) (y := false) rfl rfl (by decide) rfl) ?_
     refine lx_skip (want_if (j := 14) (d := 42) (x := true) (y := false) rfl rfl (by decide) rfl) ?_
     refine lx_value (want rfl) (pick_f rfl rfl) ?_
     refine lx_nil ?_
     refine wk_cond_f rfl ?_
     refine wk_skip ?_
     refine wk_region ?_
     refine lx_value (want rfl) (mv_int hs1_11) ?_
     refine lx_value (want rfl) (rn_add rfl rfl (by omega)) ?_
     refine lx_value (want rfl) (as_int rfl) ?_
     refine lx_nil ?_
     exact ⟨rfl, (((((((((((((((((((((((((((((((((((((((((A1.up rfl _).up rfl _).up rfl _).up rfl _).up rfl _).up rfl _).up rfl _).up rfl _).up rfl _).up rfl _).up rfl _).up rfl _).up rfl _).up rfl _).up rfl _).up rfl _).up rfl _).up rfl _).up rfl _).up rfl _).up rfl _).up rfl _).up rfl _).up rfl _).up rfl _).up rfl _).up rfl _).up rfl _).up rfl _).up rfl _).up rfl _).up rfl _).up rfl _).up rfl _).up rfl _).up rfl _).up rfl _).up rfl _).up rfl _).up rfl _).up rfl _), Fr.between F6 F10 (by omega), _, (by omega), i + 1, TT1_5, rfl, rfl, (hM4.ext E3), tg1L_5, by omega⟩
   ·
    have hon := evN_no ho hv (fun g => h3 g.1)
    have hM4 := tw1L_5; rw [← hon] at hM4
    refine mx_calm rfl (want rfl) (fun u28 eu28 fu28 => mv_bool rfl) ?_
    refine mx_skip (want_if (j := 6) (d := 34) (x := true) (y := false) rfl rfl (by decide) rfl) ?_
    refine mx_skip (want_if (j := 6) (d := 34) (x := true) (y := false) rfl rfl (by decide) rfl) ?_
    refine mx_skip (want_if (j := 6) (d := 34) (x := true) (y := false) rfl rfl (by decide) rfl) ?_
    refine mx_skip (want_if (j := 6) (d := 34) (x := true) (y := false) rfl rfl (by decide) rfl) ?_
    refine mx_skip (want_if (j := 6) (d := 34) (x := true) (y := false) rfl rfl (by decide) rfl) ?_
    refine mx_skip (want_if (j := 6) (d := 34) (x := true) (y := false) rfl rfl (by decide) rfl) ?_
    refine mx_calm rfl (want rfl) (fun u29 eu29 fu29 => pick_f rfl rfl) ?_
    refine mx_calm rfl (want rfl) (fun u30 eu30 fu30 => mv_bool rfl) ?_
    refine mx_skip (want_if (j := 14) (d := 42) (x := true) (y := false) rfl rfl (by decide) rfl) ?_
    refine mx_skip (want_if (j := 14) (d := 42) (x := true) (y := false) rfl rfl (by decide) rfl) ?_
    refine mx_skip (want_if (j := 14) (d := 42) (x := true) (y := false) rfl rfl (by decide) rfl) ?_
    refine mx_skip (want_if (j := 14) (d := 42) (x := true) (y := false) rfl rfl (by decide) rfl) ?_
    refine mx_skip (want_if (j := 14) (d := 42) (x := true) (y := false) rfl rfl (by decide) rfl) ?_
    refine mx_skip (want_if (j := 14) (d := 42) (x := true) (y := false) rfl rfl (by decide) rfl) ?_
    refine mx_skip (want_if (j := 14) (d := 42) (x := true) (y := false) rfl rfl (by decide) rfl) ?_
    refine mx_skip (want_if (j := 14) (d := 42) (x := true) (y := false) rfl rfl (by decide) rfl) ?_
    refine mx_skip (want_if (j := 14) (d := 42) (x := true) (y := false) rfl rfl (by decide) rfl) ?_
    refine mx_skip (want_if (j := 14) (d := 42) (x := true) (y := false) rfl rfl (by decide) rfl) ?_
    refine mx_nil (fun w8 E4' H3 HS => ?_)
    have E4 := (ext_drawn _).trans' E4'
    have F11 := F7.ext E4
    have hz4 := E4.size
    refine lx_skip (want_if (j := 14) (d := 42) (x := true) (y := false) rfl rfl (by decide) rfl) ?_
    refine lx_skip (want_if (j := 14) (d := 42) (x := true) (y := false) rfl rfl (by decide) rfl) ?_
    refine lx_value (want rfl) (pick_f rfl rfl) ?_
    refine lx_nil ?_
    refine wk_cond_f rfl ?_
    refine wk_skip ?_
    refine wk_region ?_
    refine lx_value (want rfl) (mv_int hs1_11) ?_
    refine lx_value (want rfl) (rn_add rfl rfl (by omega)) ?_
    refine lx_value (want rfl) (as_int rfl) ?_
    refine lx_nil ?_
    exact ⟨rfl, (((((((((((((((((((((((((((((((((((((((((A1.up rfl _).up rfl _).up rfl _).up rfl _).up rfl _).up rfl _).up rfl _).up rfl _).up rfl _).up rfl _).up rfl _).up rfl _).up rfl _).up rfl _).up rfl _).up rfl _).up rfl _).up rfl _).up rfl _).up rfl _).up rfl _).up rfl _).up rfl _).up rfl _).up rfl _).up rfl _).up rfl _).up rfl _).up rfl _).up rfl _).up rfl _).up rfl _).up rfl _).up rfl _).up rfl _).up rfl _).up rfl _).up rfl _).up rfl _).up rfl _).up rfl _), Fr.between F6 F11 (by omega), _, (by omega), i + 1, TT1_5, rfl, rfl, (hM4.ext E4), tg1L_5, by omega⟩
  ·
   have hM5 := tw1L_5; rw [evN_end (by omega), ← List.append_nil (evZ l g)] at hM5
   refine lx_value (want rfl) (pick_t rfl rfl) ?_
   refine lx_nil ?_
   refine wk_cond_f rfl ?_
   refine wk_exit ?_
   refine wk_seq ?_
   refine wk_seq ?_
   refine wk_region ?_
   refine lx_value (want rfl) (as_int rfl) ?_
   refine lx_nil ?_
   refine wk_block ?_
   refine wk_loopA [6, 7, 12, 57, 58, 59, 60, 61, 62, 63, 64, 65, 66, 67, 68, 69, 70, 71, 72, 73, 74, 75, 76] (fun j => no j ∨ w0.heap.size ≤ j) (fun nM ρ w => ∃ (j : Nat) (TT2_5 : Nat → Prop), nM = tl.length - j ∧ ρ 12 = .int .i64 j ∧ GO TT2_5 w b2 b4 (evZ l g ++ tl.take j) ∧ (∀ k, zz zn TT2_5 k → w0.heap.size ≤ k) ∧ (j ≤ tl.length)) _ ⟨0, TT1_5, rfl, rfl, hM5, tg1L_5, Nat.zero_le _⟩ ?_
   rintro n2 ρ2 w8 A2 EL2 ⟨j, TT2_5, rfl, hs2_12, tw2L_5, tg2L_5, hj⟩
   have F12 := F7.wide EL2
   have hzL2 := EL2.size
   refine wk_seq ?_
   refine wk_seq ?_
   refine wk_region ?_
   refine lx_value (want rfl) (mv_int hs2_12) ?_
   refine lx_value (want rfl) (mv_slice (A2.at 2 rfl (A1.at 2 rfl rfl))) ?_
   refine lx_value (want rfl) (rn_len Tryz.underlying31 rfl) ?_
   refine lx_value (want rfl) (rn_lss rfl rfl) ?_
   refine lx_dec (fun hl3 => ?_) (fun hl3 => ?_)
   ·
    obtain ⟨e, he⟩ := getx hl3
    obtain ⟨bt_, ot, rfl, _, hct⟩ := ht j e he
    obtain ⟨r, hr1, hr⟩ := hrd e (List.mem_append_right _ (List.mem_of_getElem? he))
    have hnew := new_reader2 hnd he
    refine lx_nil ?_
    refine wk_cond_t rfl ?_
    refine wk_skip ?_
    refine wk_seq ?_
    refine wk_block ?_
    refine wk_seq ?_
    refine wk_mix 11 (fun _ => .none) (by kernel_rfl) (by kernel_rfl) (fun kS G hk => by cases hk) (fun kS s y G hk => by cases hk) ?_
    simp only [List.take_succ_cons, List.take_zero, List.take_nil, List.drop_succ_cons, List.drop_zero, List.drop_nil]
    refine mx_calm rfl (want rfl) (fun u31 eu31 fu31 => mv_func (A2.at 10 rfl (A1.at 10 rfl rfl))) ?_
    refine mx_calm rfl (want rfl) (fun u32 eu32 fu32 => mv_slice (A2.at 2 rfl (A1.at 2 rfl rfl))) ?_
    refine mx_calm rfl (want rfl) (fun u33 eu33 fu33 => mv_int hs2_12) ?_
    refine mx_calm rfl (want rfl) (fun u34 eu34 fu34 => rn_index j Tryz.underlying31 sz_106 rfl rfl rfl (by omega)) ?_
    refine mx_calm rfl (want rfl) (fun u35 eu35 fu35 => rn_fieldAddr fa_106_0 rfl) ?_
    refine mx_calm rfl (want rfl) (fun u36 eu36 fu36 => rn_load1 ag_3 rfl ((F12.ext ((ext_drawn _).trans' eu36)).cell (fun h => h) (hct 0 _ rfl))) ?_
    refine mx_calm rfl (want rfl) (fun u37 eu37 fu37 => mv_slice (A2.at 2 rfl (A1.at 2 rfl rfl))) ?_
    refine mx_calm rfl (want rfl) (fun u38 eu38 fu38 => mv_int hs2_12) ?_
    refine mx_calm rfl (want rfl) (fun u39 eu39 fu39 => rn_index j Tryz.underlying31 sz_106 rfl rfl rfl (by omega)) ?_
    refine mx_calm rfl (want rfl) (fun u40 eu40 fu40 => rn_fieldAddr fa_106_1 rfl) ?_
    refine mx_calm rfl (want rfl) (fun u41 eu41 fu41 => rn_load2 ag_36 sz_36 rfl ((F12.ext ((ext_drawn _).trans' eu41)).cell (fun h => h) (hct 1 _ rfl)) ((F12.ext ((ext_drawn _).trans' eu41)).cell (fun h => h) (hct 2 _ rfl))) ?_
    refine mx_nil (fun w9 E5' H4 HS => ?_)
    have E5 := (ext_drawn _).trans' E5'
    have F13 := F12.ext E5
    have hz5 := E5.size
    refine lx_call (want rfl) (ent_value cf_93 rfl (argsC (t_int rfl) (argsC (t_agg rfl) args0))) (given1_ct TT2_5 b2 b4 (evZ l g ++ tl.take j) r hr e.1 hr1 e.2 (fun e he => by have := hnew e he; rw [← hr1]; exact this) w9 (tw2L_5.ext E5)) ?_
    rintro _ w10 E6 ⟨rfl, Z2, hM2, hi2⟩
    have F14 := F13.new E6 (fun k h => tg2L_5 k h)
    have hz6 := E6.size
    rw [← hr1, show (e.1, e.2) = e from rfl, told_on he] at hM2
    have tg4 : ∀ k, zz zn Z2 k → w0.heap.size ≤ k := fun k hk => (hi2 k hk).elim (tg2L_5 k) (fun h => by omega)
    refine lx_b_t (rfl) ?_
    refine lx_value (want rfl) (rn_not rfl) ?_
    refine lx_nil ?_
    refine wk_cond_f rfl ?_
    refine wk_skip ?_
    refine wk_region ?_
    refine lx_value (want rfl) (mv_int hs2_12) ?_
    refine lx_value (want rfl) (rn_add rfl rfl (by omega)) ?_
    refine lx_value (want rfl) (as_int rfl) ?_
    refine lx_nil ?_
    exact ⟨rfl, ((((((((((((((((((((A2.up rfl _).up rfl _).up rfl _).up rfl _).up rfl _).up rfl _).up rfl _).up rfl _).up rfl _).up rfl _).up rfl _).up rfl _).up rfl _).up rfl _).up rfl _).up rfl _).up rfl _).up rfl _).up rfl _).up rfl _), Fr.between F7 F14 (by omega), _, (by omega), j + 1, Z2, rfl, rfl, hM2, tg4, by omega⟩
   ·
    refine lx_nil ?_
    refine wk_cond_f rfl ?_
    refine wk_exit ?_
    refine wk_seq ?_
    refine wk_region ?_
    obtain ⟨bo, hBo, hOo, hZo⟩ := GO.parts tw2L_5
    refine lx_value (want rfl) (rn_load1 ag_30 (A2.at 8 rfl (A1.at 8 rfl rfl)) (hBo.cell 0 rfl)) ?_
    refine lx_value (want rfl) (as_slice rfl) ?_
    refine lx_value (want rfl) (as_bool rfl) ?_
    refine lx_nil ?_
    refine wk_ret ?_
    refine retR2 Tryz.results48 (.tmp (t_slice rfl)) (.tmp (t_bool rfl)) F12 ?_
    rw [take_all hl3] at hOo; exact ⟨_, _, rfl, hOo.sl (by decide) rfl (fun _ _ => rfl) (fun k hk => ⟨by rw [ob_some hk]; exact tg2L_5 _ hZo, hOo.lt hk⟩)⟩
 ·
  have hM5 := tw1L_5; rw [evN_end (by omega), ← List.append_nil (evZ l g)] at hM5
  refine lx_value (want rfl) (mv_bool rfl) ?_
  refine lx_skip (want_if (j := 4) (d := 20) (x := true) (y := false) rfl rfl (by decide) rfl) ?_
  refine lx_skip (want_if (j := 4) (d := 20) (x := true) (y := false) rfl rfl (by decide) rfl) ?_
  refine lx_skip (want_if (j := 4) (d := 20) (x := true) (y := false) rfl rfl (by decide) rfl) ?_
  refine lx_skip (want_if (j := 4) (d := 20) (x := true) (y := false) rfl rfl (by decide) rfl) ?_
  refine lx_value (want rfl) (pick_f rfl rfl) ?_
  refine lx_nil ?_
  refine wk_cond_f rfl ?_
  refine wk_exit ?_
  refine wk_seq ?_
  refine wk_seq ?_
  refine wk_region ?_
  refine lx_value (want rfl) (as_int rfl) ?_
  refine lx_nil ?_
  refine wk_block ?_
  refine wk_loopA [6, 7, 12, 57, 58, 59, 60, 61, 62, 63, 64, 65, 66, 67, 68, 69, 70, 71, 72, 73, 74, 75, 76] (fun j => no j ∨ w0.heap.size ≤ j) (fun nM ρ w => ∃ (j : Nat) (TT3_5 : Nat → Prop), nM = tl.length - j ∧ ρ 12 = .int .i64 j ∧ GO TT3_5 w b2 b4 (evZ l g ++ tl.take j) ∧ (∀ k, zz zn TT3_5 k → w0.heap.size ≤ k) ∧ (j ≤ tl.length)) _ ⟨0, TT1_5, rfl, rfl, hM5, tg1L_5, Nat.zero_le _⟩ ?_
  rintro n3 ρ3 w8 A3 EL3 ⟨j, TT3_5, rfl, hs3_12, tw3L_5, tg3L_5, hj⟩
  have F15 := F7.wide EL3
  have hzL3 := EL3.size
  refine wk_seq ?_
  refine wk_seq ?_
  refine wk_region ?_
  refine lx_value (want rfl) (mv_int hs3_12) ?_
  refine lx_value (want rfl) (mv_slice (A3.at 2 rfl (A1.at 2 rfl rfl))) ?_
  refine lx_value (want rfl) (rn_len Tryz.underlying31 rfl) ?_
  refine lx_value (want rfl) (rn_lss rfl rfl) ?_
  refine lx_dec (fun hl3 => ?_) (fun hl3 => ?_)
  ·
   obtain ⟨e, he⟩ := getx hl3
   obtain ⟨bt_, ot, rfl, _, hct⟩ := ht j e he
   obtain ⟨r, hr1, hr⟩ := hrd e (List.mem_append_right _ (List.mem_of_getElem? he))
   have hnew := new_reader2 hnd he
   refine lx_nil ?_
   refine wk_cond_t rfl ?_
   refine wk_skip ?_
   refine wk_seq ?_
   refine wk_block ?_
   refine wk_seq ?_
   refine wk_mix 11 (fun _ => .none) (by kernel_rfl) (by kernel_rfl) (fun kS G hk => by cases hk) (fun kS s y G hk => by cases hk) ?_
   simp only [List.take_succ_cons, List.take_zero, List.take_nil, List.drop_succ_cons, List.drop_zero, List.drop_nil]
   refine mx_calm rfl (want rfl) (fun u42 eu42 fu42 => mv_func (A3.at 10 rfl (A1.at 10 rfl rfl))) ?_
   refine mx_calm rfl (want rfl) (fun u43 eu43 fu43 => mv_slice (A3.at 2 rfl (A1.at 2 rfl rfl))) ?_
   refine mx_calm rfl (want rfl) (fun u44 eu44 fu44 => mv_int hs3_12) ?_
   refine mx_calm rfl (want rfl) (fun u45 eu45 fu45 => rn_index j Tryz.underlying31 sz_106 rfl rfl rfl (by omega)) ?_
   refine mx_calm rfl (want rfl) (fun u46 eu46 fu46 => rn_fieldAddr fa_106_0 rfl) ?_
   refine mx_calm rfl (want rfl) (fun u47 eu47 fu47 => rn_load1 ag_3 rfl ((F15.ext ((ext_drawn _).trans' eu47)).cell (fun h => h) (hct 0 _ rfl))) ?_
   refine mx_calm rfl (want rfl) (fun u48 eu48 fu48 => mv_slice (A3.at 2 rfl (A1.at 2 rfl rfl))) ?_
   refine mx_calm rfl (want rfl) (fun u49 eu49 fu49 => mv_int hs3_12) ?_
   refine mx_calm rfl (want rfl) (fun u50 eu50 fu50 => rn_index j Tryz.underlying31 sz_106 rfl rfl rfl (by omega)) ?_
   refine mx_calm rfl (want rfl) (fun u51 eu51 fu51 => rn_fieldAddr fa_106_1 rfl) ?_
   refine mx_calm rfl (want rfl) (fun u52 eu52 fu52 => rn_load2 ag_36 sz_36 rfl ((F15.ext ((ext_drawn _).trans' eu52)).cell (fun h => h) (hct 1 _ rfl)) ((F15.ext ((ext_drawn _).trans' eu52)).cell (fun h => h) (hct 2 _ rfl))) ?_
   refine mx_nil (fun w9 E7' H5 HS => ?_)
   have E7 := (ext_drawn _).trans' E7'
   have F16 := F15.ext E7
   have hz7 := E7.size
   refine lx_call (want rfl) (ent_value cf_93 rfl (argsC (t_int rfl) (argsC (t_agg rfl) args0))) (given1_ct TT3_5 b2 b4 (evZ l g ++ tl.take j) r hr e.1 hr1 e.2 (fun e he => by have := hnew e he; rw [← hr1]; exact this) w9 (tw3L_5.ext E7)) ?_
   rintro _ w10 E8 ⟨rfl, Z2, hM2, hi2⟩
   have F17 := F16.new E8 (fun k h => tg3L_5 k h)
   have hz8 := E8.size
   rw [← hr1, show (e.1, e.2) = e from rfl, told_on he] at hM2
   have tg5 : ∀ k, zz zn Z2 k → w0.heap.size ≤ k := fun k hk => (hi2 k hk).elim (tg3L_5 k) (fun h => by omega)
   refine lx_b_t (rfl) ?_
   refine lx_value (want rfl) (rn_not rfl) ?_
   refine lx_nil ?_
   refine wk_cond_f rfl ?_
   refine wk_skip ?_
   refine wk_region ?_
   refine lx_value (want rfl) (mv_int hs3_12) ?_
   refine lx_value (want rfl) (rn_add rfl rfl (by omega)) ?_
   refine lx_value (want rfl) (as_int rfl) ?_
   refine lx_nil ?_
   exact ⟨rfl, ((((((((((((((((((((A3.up rfl _).up rfl _).up rfl _).up rfl _).up rfl _).up rfl _).up rfl _).up rfl _).up rfl _).up rfl _).up rfl _).up rfl _).up rfl _).up rfl _).up rfl _).up rfl _).up rfl _).up rfl _).up rfl _).up rfl _), Fr.between F7 F17 (by omega), _, (by omega), j + 1, Z2, rfl, rfl, hM2, tg5, by omega⟩
  ·
   refine lx_nil ?_
   refine wk_cond_f rfl ?_
   refine wk_exit ?_
   refine wk_seq ?_
   refine wk_region ?_
   obtain ⟨bo, hBo, hOo, hZo⟩ := GO.parts tw3L_5
   refine lx_value (want rfl) (rn_load1 ag_30 (A3.at 8 rfl (A1.at 8 rfl rfl)) (hBo.cell 0 rfl)) ?_
   refine lx_value (want rfl) (as_slice rfl) ?_
   refine lx_value (want rfl) (as_bool rfl) ?_
   refine lx_nil ?_
   refine wk_ret ?_
   refine retR2 Tryz.results48 (.tmp (t_slice rfl)) (.tmp (t_bool rfl)) F15 ?_
   rw [take_all hl3] at hOo; exact ⟨_, _, rfl, hOo.sl (by decide) rfl (fun _ _ => rfl) (fun k hk => ⟨by rw [ob_some hk]; exact tg3L_5 _ hZo, hOo.lt hk⟩)⟩

end Go.Proofs.YtnhgfmbmfjmonaaGreatDoor

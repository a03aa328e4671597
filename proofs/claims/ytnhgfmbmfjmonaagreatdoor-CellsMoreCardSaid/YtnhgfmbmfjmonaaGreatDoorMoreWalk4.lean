/- What functions compute: things, pdraw. -/
import Derived.Test.YtnhgfmbmfjmonaaGreatDoorMoreFacts
import Derived.Test.YtnhgfmbmfjmonaaGreatDoorMorePre
import Derived.Test.YtnhgfmbmfjmonaaGreatDoorMoreWalk1
import Derived.Test.YtnhgfmbmfjmonaaGreatDoorMoreWalk2
set_option maxRecDepth 100000
set_option linter.unusedVariables false
set_option linter.unusedSimpArgs false
namespace Go.Proofs.YtnhgfmbmfjmonaaGreatDoor
open Go Go.RowKit Go.Mix Go.Eng
set_option maxHeartbeats 4000000 in
set_option maxRecDepth 100000 in
theorem things_ct (x : List Q4) (s : Option Addr) (c : Nat) (F : Nat → Prop) (hb : q4B x) (w0 : World) (hx : Q4S F w0 s x) :
  CT Tryz.prog 46 [.slice s x.length c] w0 no (fun v w => ∃ s' c', v = .slice s' (thL x).length c' ∧ OpS (Iv w0.heap.size w.heap.size) w s' (thL x)) := by
 have F0 := Fr.refl no w0
 refine ct_body Tryz.func46 rfl Tryz.ntmps46 (Nat.le_of_ble_eq_true rfl) ?_
 refine wk_seq ?_
 refine wk_region ?_
 refine lx_value (want rfl) (as_slice rfl) ?_
 refine lx_nil ?_
 refine wk_seq ?_
 refine wk_region ?_
 refine lx_value (want rfl) (as_slice rfl) ?_
 refine lx_nil ?_
 refine wk_seq ?_
 refine wk_region ?_
 refine lx_call (want rfl) (ent_func cf_92 args0) (sizes_ct w0) ?_
 rintro _ w1 E1 ⟨bN, rfl, hbN, hBN⟩
 have F1 := F0.ext E1
 have hz1 := E1.size
 have hlbN := (hBN).lt
 refine lx_value (want rfl) (as_slice rfl) ?_
 refine lx_nil ?_
 refine wk_seq ?_
 refine wk_region ?_
 refine lx_newS (want rfl) (rn_makeSlice Tryz.underlying96 ti_4 rfl rfl rfl (by decide)) ?_
 intro b1 w2 hb1 Eb1 B1 hlb1
 have F2 := F1.ext Eb1
 have hzb1 := Eb1.size
 have owM := OwnS.full (n := 40) (size := 1) (B1) rfl (by decide)
 have ge2 : ∀ k, ob (some (⟨b1, 0, none⟩ : Addr)) k → w0.heap.size ≤ k := fun k hk => (by have := ob_some hk; omega)
 have ne2_92 : ∀ k, ob (some (⟨b1, 0, none⟩ : Addr)) k → k ≠ bN := fun k hk => by have := ob_some hk; have := (hBN).lt; omega
 have sp2_9 : ∀ k, ob (some (⟨b1, 0, none⟩ : Addr)) k → ob none k → False := fun k hk h2 => by have := ob_some hk; have := ((OwnS.nil w0 38 8)).lt h2; omega
 have sr2_9 : ∀ k, ob none k → ob (some (⟨b1, 0, none⟩ : Addr)) k → False := fun k h1 h2 => sp2_9 k h2 h1
 refine lx_value (want rfl) (as_slice rfl) ?_
 refine lx_nil ?_
 refine wk_seq ?_
 refine wk_seq ?_
 refine wk_region ?_
 refine lx_value (want rfl) (as_int rfl) ?_
 refine lx_nil ?_
 refine wk_block ?_
 refine wk_loopA [3, 6, 7, 8, 9, 12, 13, 14, 15, 16, 17, 18, 19, 20, 21, 22, 23, 24, 25, 26, 27, 28, 29, 30, 31, 32, 33, 34, 35, 36, 37, 38, 39, 40, 41, 42, 43, 44, 45, 46, 47, 48, 49, 50, 51, 52, 53, 54, 55, 56, 57, 58, 59, 60, 61, 62, 63, 64, 65, 66, 67, 68, 69, 70, 71, 72, 73, 74, 75, 76, 77, 78, 79, 80, 81, 82, 83, 84, 85, 86, 87, 88, 89, 90, 91, 92, 93, 94, 95, 96] (fun j => no j ∨ w0.heap.size ≤ j) (fun nM ρ w => ∃ (i : Nat) (so1_9 : Option Addr) (co1_9 : Nat) (so1_5 : Option Addr) (co1_5 : Nat), nM = 24 - i ∧ ρ 6 = .int .i64 i ∧ Blk w bN (cellsOf hBN) 3 ∧ ρ 3 = .slice so1_9 ((thF x i).1.length) co1_9 ∧ OwnS w 38 8 so1_9 ((thF x i).1.length) co1_9 ((thF x i).1.flatMap opC) ∧ (∀ k, ob so1_9 k → w0.heap.size ≤ k) ∧ (∀ k, ob so1_9 k → k ≠ bN) ∧ ρ 5 = .slice so1_5 (40) co1_5 ∧ OwnS w 4 1 so1_5 (40) co1_5 (((thF x i).2.map Value.bool)) ∧ (∀ k, ob so1_5 k → w0.heap.size ≤ k) ∧ (∀ k, ob so1_5 k → k ≠ bN) ∧ (∀ k, ob so1_9 k → ob so1_5 k → False) ∧ (i ≤ x.length) ∧ (i ≤ 24) ∧ (∀ k, ob so1_9 k → w0.heap.size ≤ k)) _ ⟨0, none, 0, (some (⟨b1, 0, none⟩ : Addr)), 40, rfl, rfl, (hBN.ext Eb1), rfl, (((OwnS.nil w0 38 8).ext E1).ext Eb1), (fun _ h => ob_none h), (fun _ h => ob_none h), rfl, owM, ge2, ne2_92, sr2_9, Nat.zero_le _, Nat.zero_le _, (fun _ h => ob_none h)⟩ ?_
 rintro n1 ρ1 w3 A1 EL1 ⟨i, so1_9, co1_9, so1_5, co1_5, rfl, hs1_6, BL1_92, ho1_9, ow1L_9, ge1L_9, ne1L_9_92, ho1_5, ow1L_5, ge1L_5, ne1L_5_92, sp1L_9_5, hi, hi24, hs9⟩
 have F3 := F2.wide EL1
 have hzL1 := EL1.size
 refine wk_seq ?_
 refine wk_seq ?_
 refine wk_region ?_
 refine lx_value (want rfl) (mv_int hs1_6) ?_
 refine lx_value (want rfl) (mv_slice (A1.at 0 rfl rfl)) ?_
 refine lx_value (want rfl) (rn_len Tryz.underlying70 rfl) ?_
 refine lx_value (want rfl) (rn_lss rfl rfl) ?_
 refine lx_dec (fun hlx => ?_) (fun hlx => ?_)
 ·
  refine lx_value (want rfl) (mv_bool rfl) ?_
  refine lx_value (want_if (j := 4) (d := 16) (x := true) (y := true) rfl rfl (by decide) rfl) (mv_int hs1_6) ?_
  refine lx_value (want_if (j := 4) (d := 16) (x := true) (y := true) rfl rfl (by decide) rfl) (rn_lss rfl rfl) ?_
  refine lx_dec (fun hl24 => ?_) (fun hl24 => ?_)
  ·
   obtain ⟨q, hq⟩ := getx hlx
   have hqb := hb q (List.mem_of_getElem? hq)
   obtain ⟨bx, ox, rfl, _, hcx⟩ := hx i q hq
   have hTI := th_inv x i (by omega)
   have hs4 : q.1 % 4 < 4 := Nat.mod_lt _ (by decide)
   have hc5 : q.2.1 % 5 < 5 := Nat.mod_lt _ (by decide)
   obtain ⟨wb, hwb⟩ : ∃ y, (thF x i).2[8 * (q.1 % 4) + q.2.1 % 5]? = some y := ⟨_, List.getElem?_eq_getElem (by rw [hTI.wl]; omega)⟩
   have hgd : (thF x i).2.getD (8 * (q.1 % 4) + q.2.1 % 5) false = wb := by rw [List.getD_eq_getElem?_getD, hwb]; rfl
   obtain ⟨bW, oW, hsW⟩ := own_some (ow1L_5) (show 0 < 40 by decide)
   subst hsW
   refine lx_value (want rfl) (pick_t rfl rfl) ?_
   refine lx_nil ?_
   refine wk_cond_t rfl ?_
   refine wk_skip ?_
   refine wk_seq ?_
   refine wk_block ?_
   refine wk_seq ?_
   refine wk_mix 17 (fun _ => .none) (by kernel_rfl) (by kernel_rfl) (fun kS G hk => by cases hk) (fun kS s y G hk => by cases hk) ?_
   simp only [List.take_succ_cons, List.take_zero, List.take_nil, List.drop_succ_cons, List.drop_zero, List.drop_nil]
   refine mx_calm rfl (want rfl) (fun u1 eu1 fu1 => mv_slice (A1.at 0 rfl rfl)) ?_
   refine mx_calm rfl (want rfl) (fun u2 eu2 fu2 => mv_int hs1_6) ?_
   refine mx_calm rfl (want rfl) (fun u3 eu3 fu3 => rn_index i Tryz.underlying70 sz_141 rfl rfl rfl (by omega)) ?_
   refine mx_calm rfl (want rfl) (fun u4 eu4 fu4 => rn_indexA 0 Tryz.underlying141 sz_5 rfl rfl rfl (by decide)) ?_
   refine mx_calm rfl (want rfl) (fun u5 eu5 fu5 => rn_load1 ag_5 rfl ((F3.ext ((ext_drawn _).trans' eu5)).cell (fun h => h) (hcx 0 _ rfl))) ?_
   refine mx_calm rfl (want rfl) (fun u6 eu6 fu6 => rn_conv Tryz.underlying5 Tryz.underlying3 rfl (wrap64_nat (by omega))) ?_
   refine mx_calm rfl (want rfl) (fun u7 eu7 fu7 => mv_slice (A1.at 4 rfl rfl)) ?_
   refine mx_calm rfl (want rfl) (fun u8 eu8 fu8 => rn_len Tryz.underlying77 rfl) ?_
   refine mx_calm (v := .int .i64 ((q.1 % 4 : Nat) : Int)) rfl (want rfl) (fun u9 eu9 fu9 => (rn_remN (n := 4) rfl rfl (by decide))) ?_
   refine mx_calm rfl (want rfl) (fun u10 eu10 fu10 => mv_slice (A1.at 0 rfl rfl)) ?_
   refine mx_calm rfl (want rfl) (fun u11 eu11 fu11 => mv_int hs1_6) ?_
   refine mx_calm rfl (want rfl) (fun u12 eu12 fu12 => rn_index i Tryz.underlying70 sz_141 rfl rfl rfl (by omega)) ?_
   refine mx_calm rfl (want rfl) (fun u13 eu13 fu13 => rn_indexA 1 Tryz.underlying141 sz_5 rfl rfl rfl (by decide)) ?_
   refine mx_calm rfl (want rfl) (fun u14 eu14 fu14 => rn_load1 ag_5 rfl ((F3.ext ((ext_drawn _).trans' eu14)).cell (fun h => h) (hcx 1 _ rfl))) ?_
   refine mx_calm rfl (want rfl) (fun u15 eu15 fu15 => rn_conv Tryz.underlying5 Tryz.underlying3 rfl (wrap64_nat (by omega))) ?_
   refine mx_calm (v := .int .i64 ((q.2.1 % 5 : Nat) : Int)) rfl (want rfl) (fun u16 eu16 fu16 => (rn_remN (n := 5) rfl rfl (by decide))) ?_
   refine mx_calm rfl (want rfl) (fun u17 eu17 fu17 => as_int rfl) ?_
   refine mx_nil (fun w4 E2' H1 HS => ?_)
   have E2 := (ext_drawn _).trans' E2'
   have F4 := F3.ext E2
   have hz2 := E2.size
   refine lx_value (want rfl) (as_int rfl) ?_
   refine lx_nil ?_
   refine wk_seq ?_
   refine wk_region ?_
   refine lx_value (want rfl) (mv_int rfl) ?_
   refine lx_call (want rfl) (ent_func cf_61 (argsC (t_int rfl) args0)) (ref_ct _ w4) ?_
   rintro _ w5 E3 rfl
   have F5 := F4.ext E3
   have hz3 := E3.size
   refine lx_value (want rfl) (mv_int rfl) ?_
   refine lx_call (want rfl) (ent_func cf_41 (argsC (t_int rfl) args0)) (int_ct _ w5) ?_
   rintro _ w6 E4 rfl
   have F6 := F5.ext E4
   have hz4 := E4.size
   refine lx_value (want rfl) (mv_int hs1_6) ?_
   refine lx_value (want rfl) (rn_build4 (t_int rfl) (t_agg rfl) (t_agg rfl) (t_int rfl) (fun w => bd_38_0_1_2_4 _ _ _ _ _ _ w)) ?_
   refine lx_new (want rfl) (rn_alloc ze_38) ?_
   intro b2 w7 hb2 Eb2 B2 hlb2
   have F7 := F6.ext Eb2
   have hzb2 := Eb2.size
   have nb1 : ∀ k, ob so1_9 k → k ≠ b2 := fun k hk => by have := (ow1L_9).lt hk; omega
   have nb2 : ∀ k, ob (some (⟨bW, oW, none⟩ : Addr)) k → k ≠ b2 := fun k hk => by have := (ow1L_5).lt hk; omega
   refine lx_set (want rfl) sz_38 rfl (t_agg rfl) rfl rfl rfl B2 (Nat.le_of_ble_eq_true rfl) ?_
   intro w8 Es1 Bs1
   have F8 := F7.set Es1 (by omega)
   have hzs1 := Es1.size
   refine lx_nil ?_
   refine wk_seq ?_
   refine wk_seq ?_
   refine wk_region ?_
   refine lx_value (want rfl) (mv_slice (A1.at 0 rfl rfl)) ?_
   refine lx_value (want rfl) (mv_int hs1_6) ?_
   refine lx_value (want rfl) (rn_index i Tryz.underlying70 sz_141 rfl rfl rfl (by omega)) ?_
   refine lx_value (want rfl) (rn_indexA 2 Tryz.underlying141 sz_5 rfl rfl rfl (by decide)) ?_
   refine lx_value (want rfl) (rn_load1 ag_5 rfl (F8.cell (fun h => h) (hcx 2 _ rfl))) ?_
   refine lx_value (v := .int .u8 ((q.2.2.1 % 3 : Nat) : Int)) (want rfl) ((rn_remN (n := 3) rfl rfl (by decide))) ?_
   refine lx_value (want rfl) (rn_gtr rfl rfl) ?_
   refine lx_dec (fun hg => ?_) (fun hg => ?_)
   ·
    refine lx_value (want rfl) (mv_bool rfl) ?_
    refine lx_value (want_if (j := 7) (d := 51) (x := true) (y := true) rfl rfl (by decide) rfl) (mv_slice ho1_5) ?_
    refine lx_value (want_if (j := 7) (d := 51) (x := true) (y := true) rfl rfl (by decide) rfl) (mv_int rfl) ?_
    refine lx_value (want_if (j := 7) (d := 51) (x := true) (y := true) rfl rfl (by decide) rfl) (rn_mul rfl rfl (by omega)) ?_
    refine lx_value (want_if (j := 7) (d := 51) (x := true) (y := true) rfl rfl (by decide) rfl) (mv_int rfl) ?_
    refine lx_value (want_if (j := 7) (d := 51) (x := true) (y := true) rfl rfl (by decide) rfl) (rn_add rfl rfl (by omega)) ?_
    refine lx_value (want_if (j := 7) (d := 51) (x := true) (y := true) rfl rfl (by decide) rfl) (rn_index (8 * (q.1 % 4) + q.2.1 % 5) Tryz.underlying96 sz_4 rfl rfl (by omega) (by omega)) ?_
    refine lx_value (want_if (j := 7) (d := 51) (x := true) (y := true) rfl rfl (by decide) rfl) (rn_load1 ag_4 rfl (bool_cell (((((ow1L_5.ext E2).ext E3).ext E4).ext Eb2).ne Es1 (fun h => nb2 _ h rfl)) hTI.wl hwb)) ?_
    refine lx_split (fun hw => ?_) (fun hw => ?_)
    ·
     subst hw
     have hth := th_r hq (fun g => by rw [hgd] at g; cases g.2)
     refine lx_value (want_if (j := 7) (d := 51) (x := true) (y := true) rfl rfl (by decide) rfl) (rn_not rfl) ?_
     refine lx_value (want rfl) (pick_t rfl rfl) ?_
     refine lx_nil ?_
     refine wk_cond_f rfl ?_
     refine wk_skip ?_
     refine wk_region ?_
     refine lx_value (want rfl) (mv_slice ho1_9) ?_
     refine lx_value (want rfl) (rn_loadBlk ag_38 sz_38 rfl Bs1 rfl rfl) ?_
     refine lx_newS (want rfl) (rn_bslice (xs := [.tmp 94]) Tryz.underlying25 sz_38 ze_38 rfl (argsC (t_agg rfl) args0) (CL.cons rfl rfl CL.nil) rfl (Nat.le_of_ble_eq_true rfl)) ?_
     intro b3 w9 hb3 Eb3 B3 hlb3
     have F9 := F8.ext Eb3
     have hzb3 := Eb3.size
     have nb3 : ∀ k, ob so1_9 k → k ≠ b3 := fun k hk => by have := (ow1L_9).lt hk; omega
     have nb4 : ∀ k, ob (some (⟨bW, oW, none⟩ : Addr)) k → k ≠ b3 := fun k hk => by have := (ow1L_5).lt hk; omega
     refine lx_append 64 (want rfl) Tryz.underlying25 ti_38 (by decide) rfl (by decide) rfl rfl ((((((ow1L_9.ext E2).ext E3).ext E4).ext Eb2).ne Es1 (fun h => nb1 _ h rfl)).ext Eb3) ((Src.blk B3 rfl rfl)) (by have := hTI.len; omega) ?_
     intro sq3 cq3 w10 AP3
     have EA3 := AP3.fr
     have ow3 := AP3.own
     have ge3 : ∀ k, ob sq3 k → w0.heap.size ≤ k := fun k hk => (AP3.blk k hk).elim (ge1L_9 k) (fun h => (Nat.le_trans F9.size h))
     have ne3_92 : ∀ k, ob sq3 k → k ≠ bN := fun k hk => (AP3.blk k hk).elim (ne1L_9_92 k) (fun h => by have := (((((((BL1_92.ext E2).ext E3).ext E4).ext Eb2).ne Es1 (by omega)).ext Eb3)).lt; omega)
     have ne3_2 : ∀ k, ob sq3 k → k ≠ b2 := fun k hk => (AP3.blk k hk).elim (nb1 k) (fun h => by have := ((Bs1.ext Eb3)).lt; omega)
     have ne3_3 : ∀ k, ob sq3 k → k ≠ b3 := fun k hk => (AP3.blk k hk).elim (nb3 k) (fun h => by have := (B3).lt; omega)
     have sp3_5 : ∀ k, ob sq3 k → ob (some (⟨bW, oW, none⟩ : Addr)) k → False := fun k hk h2 => (AP3.blk k hk).elim (fun h => sp1L_9_5 k h h2) (fun h => by have := (((((((ow1L_5.ext E2).ext E3).ext E4).ext Eb2).ne Es1 (fun h => nb2 _ h rfl)).ext Eb3)).lt h2; omega)
     have F10 := F9.new EA3 ge1L_9
     have hzA3 := EA3.size
     have BA3_92 := ((((((BL1_92.ext E2).ext E3).ext E4).ext Eb2).ne Es1 (by omega)).ext Eb3).fr EA3 (fun h => ne1L_9_92 _ h rfl)
     have BA3_2 := (Bs1.ext Eb3).fr EA3 (fun h => nb1 _ h rfl)
     have BA3_3 := B3.fr EA3 (fun h => nb3 _ h rfl)
     have oA3_5 := ((((((ow1L_5.ext E2).ext E3).ext E4).ext Eb2).ne Es1 (fun h => nb2 _ h rfl)).ext Eb3).fr EA3 (fun k h1 h2 => sp1L_9_5 k h2 h1)
     have sr3_5 : ∀ k, ob (some (⟨bW, oW, none⟩ : Addr)) k → ob sq3 k → False := fun k h1 h2 => sp3_5 k h2 h1
     refine lx_value (want rfl) (as_slice rfl) ?_
     refine lx_nil ?_
     refine wk_region ?_
     refine lx_value (want rfl) (mv_int hs1_6) ?_
     refine lx_value (want rfl) (rn_add rfl rfl (by omega)) ?_
     refine lx_value (want rfl) (as_int rfl) ?_
     refine lx_nil ?_
     exact ⟨rfl, (((((((((((((((((((((((((((((((((((((((((((((((((((((((((((A1.up rfl _).up rfl _).up rfl _).up rfl _).up rfl _).up rfl _).up rfl _).up rfl _).up rfl _).up rfl _).up rfl _).up rfl _).up rfl _).up rfl _).up rfl _).up rfl _).up rfl _).up rfl _).up rfl _).up rfl _).up rfl _).up rfl _).up rfl _).up rfl _).up rfl _).up rfl _).up rfl _).up rfl _).up rfl _).up rfl _).up rfl _).up rfl _).up rfl _).none _).up rfl _).up rfl _).up rfl _).up rfl _).up rfl _).up rfl _).up rfl _).up rfl _).up rfl _).up rfl _).up rfl _).up rfl _).up rfl _).up rfl _).up rfl _).up rfl _).up rfl _).up rfl _).up rfl _).up rfl _).up rfl _).up rfl _).up rfl _).up rfl _).up rfl _), Fr.between F2 F10 (by omega), _, (by omega), i + 1, sq3, cq3, (some (⟨bW, oW, none⟩ : Addr)), co1_5, rfl, rfl, BA3_92, (by rw [hth]; exact slot_app rfl), (by rw [hth]; exact own_more ow3 rfl), ge3, ne3_92, ho1_5, (by rw [hth]; exact oA3_5), ge1L_5, ne1L_5_92, sp3_5, by omega, by omega, (fun k hk => (AP3.blk k hk).elim (hs9 k) (fun h => by omega))⟩
    ·
     subst hw
     refine lx_value (want_if (j := 7) (d := 51) (x := true) (y := true) rfl rfl (by decide) rfl) (rn_not rfl) ?_
     refine lx_value (want rfl) (pick_t rfl rfl) ?_
     refine lx_nil ?_
     refine wk_cond_t rfl ?_
     refine wk_seq ?_
     refine wk_region ?_
     refine lx_value (want rfl) (mv_slice ho1_5) ?_
     refine lx_value (want rfl) (mv_int rfl) ?_
     refine lx_value (want rfl) (rn_mul rfl rfl (by omega)) ?_
     refine lx_value (want rfl) (mv_int rfl) ?_
     refine lx_value (want rfl) (rn_add rfl rfl (by omega)) ?_
     refine lx_value (want rfl) (rn_index (8 * (q.1 % 4) + q.2.1 % 5) Tryz.underlying96 sz_4 rfl rfl (by omega) (by omega)) ?_
     have hOw4 := (((((ow1L_5.ext E2).ext E3).ext E4).ext Eb2).ne Es1 (fun h => nb2 _ h rfl))
     refine lx_owncell (j := ((8 * (q.1 % 4) + q.2.1 % 5) * 1)) (want rfl) sz_4 rfl (t_bool rfl) rfl rfl rfl hOw4 (by omega) ?_
     intro w9 E5' HO4
     have E5 : Fr (ob (some (⟨bW, oW, none⟩ : Addr))) _ _ := E5'.mono (fun i _ hi => ⟨_, _, by subst hi; rfl⟩)
     have F11 := F8.new E5 ge1L_5
     have hz5 := E5.size
     have hN4 := HO4; rw [bool_set1 (by rw [hTI.wl]; omega)] at hN4
     have hth := th_w hq (by omega) hgd
     refine lx_nil ?_
     refine wk_mix 24 (fun kS => match kS with | 1 => .val (.agg #[.int .u8 4, .int .i64 ((q.1 % 4 : Nat) : Int)]) | 3 => .val (.agg #[.int .u8 1, .int .i64 ((q.2.1 % 5 : Nat) : Int)]) | 5 => .val (.agg #[.int .u8 1, .int .i64 (i : Int)]) | 10 => .val (.agg #[.int .u8 4, .int .i64 ((i % 4 : Nat) : Int)]) | 11 => .val (.agg #[.int .u8 3, .int .i64 0]) | 15 => .val (.agg #[.int .u8 5, .int .i64 ((1 + i % 5 : Nat) : Int)]) | _ => .none) (by kernel_rfl) (by kernel_rfl) (by intro kS G hk; (try dsimp only at hk); (split at hk) <;> first | (cases hk; done) | (injection hk with hk; subst hk; exact ⟨by intro j hkj I v w w' hR hG; first | exact hG, fun ⟨_, _, _, _, hs⟩ => by (try dsimp only at hs); split at hs <;> cases hs⟩)) (by intro kS s y G hk; (try dsimp only at hk); split at hk <;> cases hk) ?_
     simp only [List.take_succ_cons, List.take_zero, List.take_nil, List.drop_succ_cons, List.drop_zero, List.drop_nil]
     refine mx_calm rfl (want rfl) (fun u18 eu18 fu18 => mv_int rfl) ?_
     refine mx_val rfl (want rfl) (fun u19 eu19 fu19 => do_call (ent_func cf_61 (argsC (t_int rfl) args0)) (ref_ct _ u19) (fun _ _ E h => ⟨E, h⟩)) ?_
     refine mx_calm rfl (want rfl) (fun u20 eu20 fu20 => mv_int rfl) ?_
     refine mx_val rfl (want rfl) (fun u21 eu21 fu21 => do_call (ent_func cf_41 (argsC (t_int rfl) args0)) (int_ct _ u21) (fun _ _ E h => ⟨E, h⟩)) ?_
     refine mx_calm rfl (want rfl) (fun u22 eu22 fu22 => mv_int hs1_6) ?_
     refine mx_val rfl (want rfl) (fun u23 eu23 fu23 => do_call (ent_func cf_41 (argsC (t_int rfl) args0)) (int_ct _ u23) (fun _ _ E h => ⟨E, h⟩)) ?_
     refine mx_calm rfl (want rfl) (fun u24 eu24 fu24 => mv_int hs1_6) ?_
     refine mx_calm rfl (want rfl) (fun u25 eu25 fu25 => mv_slice (A1.at 4 rfl rfl)) ?_
     refine mx_calm rfl (want rfl) (fun u26 eu26 fu26 => rn_len Tryz.underlying77 rfl) ?_
     refine mx_calm (v := .int .i64 ((i % 4 : Nat) : Int)) rfl (want rfl) (fun u27 eu27 fu27 => (rn_remN (n := 4) rfl rfl (by decide))) ?_
     refine mx_val rfl (want rfl) (fun u28 eu28 fu28 => do_call (ent_func cf_61 (argsC (t_int rfl) args0)) (ref_ct _ u28) (fun _ _ E h => ⟨E, h⟩)) ?_
     refine mx_val rfl (want rfl) (fun u29 eu29 fu29 => do_call (ent_func cf_66 args0) (nil_ct u29) (fun _ _ E h => ⟨E, h⟩)) ?_
     refine mx_calm rfl (want rfl) (fun u30 eu30 fu30 => mv_int hs1_6) ?_
     refine mx_calm (v := .int .i64 ((i % 5 : Nat) : Int)) rfl (want rfl) (fun u31 eu31 fu31 => (rn_remN (n := 5) rfl rfl (by decide))) ?_
     refine mx_calm (v := .int .i64 ((1 + i % 5 : Nat) : Int)) rfl (want rfl) (fun u32 eu32 fu32 => (rn_oneadd rfl rfl (by omega))) ?_
     refine mx_val rfl (want rfl) (fun u33 eu33 fu33 => do_call (ent_func cf_67 (argsC (t_int rfl) args0)) (refbad_ct _ u33) (fun _ _ E h => ⟨E, h⟩)) ?_
     refine mx_calm rfl (want rfl) (fun u34 eu34 fu34 => rn_build4 (t_agg rfl) (t_agg rfl) (t_agg rfl) (t_agg rfl) (fun w => bd_142_0_1_2_3 _ _ _ _ _ _ _ _ w)) ?_
     refine mx_calm rfl (want rfl) (fun u35 eu35 fu35 => mv_slice (A1.at 0 rfl rfl)) ?_
     refine mx_calm rfl (want rfl) (fun u36 eu36 fu36 => mv_int hs1_6) ?_
     refine mx_calm rfl (want rfl) (fun u37 eu37 fu37 => rn_index i Tryz.underlying70 sz_141 rfl rfl rfl (by omega)) ?_
     refine mx_calm rfl (want rfl) (fun u38 eu38 fu38 => rn_indexA 2 Tryz.underlying141 sz_5 rfl rfl rfl (by decide)) ?_
     refine mx_calm rfl (want rfl) (fun u39 eu39 fu39 => rn_load1 ag_5 rfl ((F11.ext ((ext_drawn _).trans' eu39)).cell (fun h => h) (hcx 2 _ rfl))) ?_
     refine mx_calm (v := .int .u8 ((q.2.2.1 / 3 : Nat) : Int)) rfl (want rfl) (fun u40 eu40 fu40 => (rn_quo8 (n := 3) rfl rfl (by omega) (by decide))) ?_
     refine mx_calm (v := .int .u8 ((q.2.2.1 / 3 % 4 : Nat) : Int)) rfl (want rfl) (fun u41 eu41 fu41 => (rn_remN (n := 4) rfl rfl (by decide))) ?_
     refine mx_nil (fun w10 E6' H2 HS => ?_)
     have E6 := (ext_drawn _).trans' E6'
     have F12 := F11.ext E6
     have hz6 := E6.size
     refine lx_value (v := .agg #[.int .u8 (thV q.2.2.1 i).1, .int .i64 (thV q.2.2.1 i).2]) (want rfl) ((rn_idx4 idx142 (v0 := (1, (i : Int))) (v1 := (4, ((i % 4 : Nat) : Int))) (v2 := (3, 0)) (v3 := (5, ((1 + i % 5 : Nat) : Int))) rfl rfl (Nat.mod_lt _ (by decide)) rfl)) ?_
     refine lx_value (want rfl) (rn_build4 (t_int rfl) (t_agg rfl) (t_agg rfl) (t_agg rfl) (fun w => bd_38_0_1_2_3 _ _ _ _ _ _ _ w)) ?_
     refine lx_set (want rfl) sz_38 rfl (t_agg rfl) rfl rfl rfl ((Bs1.fr E5 (fun h => nb2 _ h rfl)).ext E6) (Nat.le_of_ble_eq_true rfl) ?_
     intro w11 Es2 Bs2
     have F13 := F12.set Es2 (by omega)
     have hzs2 := Es2.size
     refine lx_nil ?_
     refine wk_region ?_
     refine lx_value (want rfl) (mv_slice ho1_9) ?_
     refine lx_value (want rfl) (rn_loadBlk ag_38 sz_38 rfl Bs2 rfl rfl) ?_
     refine lx_newS (want rfl) (rn_bslice (xs := [.tmp 94]) Tryz.underlying25 sz_38 ze_38 rfl (argsC (t_agg rfl) args0) (CL.cons rfl rfl CL.nil) rfl (Nat.le_of_ble_eq_true rfl)) ?_
     intro b4 w12 hb4 Eb4 B4 hlb4
     have F14 := F13.ext Eb4
     have hzb4 := Eb4.size
     have nb5 : ∀ k, ob so1_9 k → k ≠ b4 := fun k hk => by have := (ow1L_9).lt hk; omega
     have nb6 : ∀ k, ob (some (⟨bW, oW, none⟩ : Addr)) k → k ≠ b4 := fun k hk => by have := (hN4).lt hk; omega
     refine lx_append 64 (want rfl) Tryz.underlying25 ti_38 (by decide) rfl (by decide) rfl rfl (((((((((ow1L_9.ext E2).ext E3).ext E4).ext Eb2).ne Es1 (fun h => nb1 _ h rfl)).fr E5 (fun k h1 h2 => (fun k h1 h2 => sp1L_9_5 k h2 h1) k h2 h1)).ext E6).ne Es2 (fun h => nb1 _ h rfl)).ext Eb4) ((Src.blk B4 rfl rfl)) (by have := hTI.len; omega) ?_
     intro sq5 cq5 w13 AP5
     have EA5 := AP5.fr
     have ow5 := AP5.own
     have ge5 : ∀ k, ob sq5 k → w0.heap.size ≤ k := fun k hk => (AP5.blk k hk).elim (ge1L_9 k) (fun h => (Nat.le_trans F14.size h))
     have ne5_92 : ∀ k, ob sq5 k → k ≠ bN := fun k hk => (AP5.blk k hk).elim (ne1L_9_92 k) (fun h => by have := ((((((((((BL1_92.ext E2).ext E3).ext E4).ext Eb2).ne Es1 (by omega)).fr E5 (fun h => ne1L_5_92 _ h rfl)).ext E6).ne Es2 (by omega)).ext Eb4)).lt; omega)
     have ne5_2 : ∀ k, ob sq5 k → k ≠ b2 := fun k hk => (AP5.blk k hk).elim (nb1 k) (fun h => by have := ((Bs2.ext Eb4)).lt; omega)
     have ne5_4 : ∀ k, ob sq5 k → k ≠ b4 := fun k hk => (AP5.blk k hk).elim (nb5 k) (fun h => by have := (B4).lt; omega)
     have sp5_5 : ∀ k, ob sq5 k → ob (some (⟨bW, oW, none⟩ : Addr)) k → False := fun k hk h2 => (AP5.blk k hk).elim (fun h => sp1L_9_5 k h h2) (fun h => by have := ((((hN4.ext E6).ne Es2 (fun h => nb2 _ h rfl)).ext Eb4)).lt h2; omega)
     have F15 := F14.new EA5 ge1L_9
     have hzA5 := EA5.size
     have BA5_92 := (((((((((BL1_92.ext E2).ext E3).ext E4).ext Eb2).ne Es1 (by omega)).fr E5 (fun h => ne1L_5_92 _ h rfl)).ext E6).ne Es2 (by omega)).ext Eb4).fr EA5 (fun h => ne1L_9_92 _ h rfl)
     have BA5_2 := (Bs2.ext Eb4).fr EA5 (fun h => nb1 _ h rfl)
     have BA5_4 := B4.fr EA5 (fun h => nb5 _ h rfl)
     have oA5_5 := (((hN4.ext E6).ne Es2 (fun h => nb2 _ h rfl)).ext Eb4).fr EA5 (fun k h1 h2 => sp1L_9_5 k h2 h1)
     have sr5_5 : ∀ k, ob (some (⟨bW, oW, none⟩ : Addr)) k → ob sq5 k → False := fun k h1 h2 => sp5_5 k h2 h1
     refine lx_value (want rfl) (as_slice rfl) ?_
     refine lx_nil ?_
     refine wk_region ?_
     refine lx_value (want rfl) (mv_int hs1_6) ?_
     refine lx_value (want rfl) (rn_add rfl rfl (by omega)) ?_
     refine lx_value (want rfl) (as_int rfl) ?_
     refine lx_nil ?_
     exact ⟨rfl, (((((((((((((((((((((((((((((((((((((((((((((((((((((((((((((((((((((((((((((((((((((((((((((A1.up rfl _).up rfl _).up rfl _).up rfl _).up rfl _).up rfl _).up rfl _).up rfl _).up rfl _).up rfl _).up rfl _).up rfl _).up rfl _).up rfl _).up rfl _).up rfl _).up rfl _).up rfl _).up rfl _).up rfl _).up rfl _).up rfl _).up rfl _).up rfl _).up rfl _).up rfl _).up rfl _).up rfl _).up rfl _).up rfl _).up rfl _).up rfl _).up rfl _).none _).up rfl _).up rfl _).up rfl _).up rfl _).up rfl _).up rfl _).up rfl _).up rfl _).up rfl _).up rfl _).up rfl _).up rfl _).up rfl _).up rfl _).up rfl _).up rfl _).up rfl _).up rfl _).up rfl _).up rfl _).up rfl _).up rfl _).up rfl _).none _).up rfl _).up rfl _).up rfl _).up rfl _).up rfl _).up rfl _).up rfl _).up rfl _).up rfl _).up rfl _).up rfl _).up rfl _).up rfl _).up rfl _).up rfl _).up rfl _).up rfl _).up rfl _).up rfl _).up rfl _).up rfl _).up rfl _).up rfl _).up rfl _).up rfl _).up rfl _).none _).up rfl _).up rfl _).up rfl _).up rfl _).up rfl _).up rfl _).up rfl _).up rfl _), Fr.between F2 F15 (by omega), _, (by omega), i + 1, sq5, cq5, (some (⟨bW, oW, none⟩ : Addr)), co1_5, rfl, rfl, BA5_92, (by rw [hth]; exact slot_app rfl), (by rw [hth]; exact own_more ow5 rfl), ge5, ne5_92, ho1_5, (by rw [hth]; exact oA5_5), ge1L_5, ne1L_5_92, sp5_5, by omega, by omega, (fun k hk => (AP5.blk k hk).elim (hs9 k) (fun h => by omega))⟩
   ·
    have hth := th_r hq (fun g => by have := g.1; omega)
    refine lx_value (want rfl) (mv_bool rfl) ?_
    refine lx_skip (want_if (j := 7) (d := 51) (x := true) (y := false) rfl rfl (by decide) rfl) ?_
    refine lx_skip (want_if (j := 7) (d := 51) (x := true) (y := false) rfl rfl (by decide) rfl) ?_
    refine lx_skip (want_if (j := 7) (d := 51) (x := true) (y := false) rfl rfl (by decide) rfl) ?_
    refine lx_skip (want_if (j := 7) (d := 51) (x := true) (y := false) rfl rfl (by decide) rfl) ?_
    refine lx_skip (want_if (j := 7) (d := 51) (x := true) (y := false) rfl rfl (by decide) rfl) ?_
    refine lx_skip (want_if (j := 7) (d := 51) (x := true) (y := false) rfl rfl (by decide) rfl) ?_
    refine lx_skip (want_if (j := 7) (d := 51) (x := true) (y := false) rfl rfl (by decide) rfl) ?_
    refine lx_skip (want_if (j := 7) (d := 51) (x := true) (y := false) rfl rfl (by decide) rfl) ?_
    refine lx_value (want rfl) (pick_f rfl rfl) ?_
    refine lx_nil ?_
    refine wk_cond_f rfl ?_
    refine wk_skip ?_
    refine wk_region ?_
    refine lx_value (want rfl) (mv_slice ho1_9) ?_
    refine lx_value (want rfl) (rn_loadBlk ag_38 sz_38 rfl Bs1 rfl rfl) ?_
    refine lx_newS (want rfl) (rn_bslice (xs := [.tmp 94]) Tryz.underlying25 sz_38 ze_38 rfl (argsC (t_agg rfl) args0) (CL.cons rfl rfl CL.nil) rfl (Nat.le_of_ble_eq_true rfl)) ?_
    intro b5 w9 hb5 Eb5 B5 hlb5
    have F16 := F8.ext Eb5
    have hzb5 := Eb5.size
    have nb7 : ∀ k, ob so1_9 k → k ≠ b5 := fun k hk => by have := (ow1L_9).lt hk; omega
    have nb8 : ∀ k, ob (some (⟨bW, oW, none⟩ : Addr)) k → k ≠ b5 := fun k hk => by have := (ow1L_5).lt hk; omega
    refine lx_append 64 (want rfl) Tryz.underlying25 ti_38 (by decide) rfl (by decide) rfl rfl ((((((ow1L_9.ext E2).ext E3).ext E4).ext Eb2).ne Es1 (fun h => nb1 _ h rfl)).ext Eb5) ((Src.blk B5 rfl rfl)) (by have := hTI.len; omega) ?_
    intro sq6 cq6 w10 AP6
    have EA6 := AP6.fr
    have ow6 := AP6.own
    have ge6 : ∀ k, ob sq6 k → w0.heap.size ≤ k := fun k hk => (AP6.blk k hk).elim (ge1L_9 k) (fun h => (Nat.le_trans F16.size h))
    have ne6_92 : ∀ k, ob sq6 k → k ≠ bN := fun k hk => (AP6.blk k hk).elim (ne1L_9_92 k) (fun h => by have := (((((((BL1_92.ext E2).ext E3).ext E4).ext Eb2).ne Es1 (by omega)).ext Eb5)).lt; omega)
    have ne6_2 : ∀ k, ob sq6 k → k ≠ b2 := fun k hk => (AP6.blk k hk).elim (nb1 k) (fun h => by have := ((Bs1.ext Eb5)).lt; omega)
    have ne6_5 : ∀ k, ob sq6 k → k ≠ b5 := fun k hk => (AP6.blk k hk).elim (nb7 k) (fun h => by have := (B5).lt; omega)
    have sp6_5 : ∀ k, ob sq6 k → ob (some (⟨bW, oW, none⟩ : Addr)) k → False := fun k hk h2 => (AP6.blk k hk).elim (fun h => sp1L_9_5 k h h2) (fun h => by have := (((((((ow1L_5.ext E2).ext E3).ext E4).ext Eb2).ne Es1 (fun h => nb2 _ h rfl)).ext Eb5)).lt h2; omega)
    have F17 := F16.new EA6 ge1L_9
    have hzA6 := EA6.size
    have BA6_92 := ((((((BL1_92.ext E2).ext E3).ext E4).ext Eb2).ne Es1 (by omega)).ext Eb5).fr EA6 (fun h => ne1L_9_92 _ h rfl)
    have BA6_2 := (Bs1.ext Eb5).fr EA6 (fun h => nb1 _ h rfl)
    have BA6_5 := B5.fr EA6 (fun h => nb7 _ h rfl)
    have oA6_5 := ((((((ow1L_5.ext E2).ext E3).ext E4).ext Eb2).ne Es1 (fun h => nb2 _ h rfl)).ext Eb5).fr EA6 (fun k h1 h2 => sp1L_9_5 k h2 h1)
    have sr6_5 : ∀ k, ob (some (⟨bW, oW, none⟩ : Addr)) k → ob sq6 k → False := fun k h1 h2 => sp6_5 k h2 h1
    refine lx_value (want rfl) (as_slice rfl) ?_
    refine lx_nil ?_
    refine wk_region ?_
    refine lx_value (want rfl) (mv_int hs1_6) ?_
    refine lx_value (want rfl) (rn_add rfl rfl (by omega)) ?_
    refine lx_value (want rfl) (as_int rfl) ?_
    refine lx_nil ?_
    exact ⟨rfl, (((((((((((((((((((((((((((((((((((((((((((((((((((((((((((A1.up rfl _).up rfl _).up rfl _).up rfl _).up rfl _).up rfl _).up rfl _).up rfl _).up rfl _).up rfl _).up rfl _).up rfl _).up rfl _).up rfl _).up rfl _).up rfl _).up rfl _).up rfl _).up rfl _).up rfl _).up rfl _).up rfl _).up rfl _).up rfl _).up rfl _).up rfl _).up rfl _).up rfl _).up rfl _).up rfl _).up rfl _).up rfl _).up rfl _).none _).up rfl _).up rfl _).up rfl _).up rfl _).up rfl _).up rfl _).up rfl _).up rfl _).up rfl _).up rfl _).up rfl _).up rfl _).up rfl _).up rfl _).up rfl _).up rfl _).up rfl _).up rfl _).up rfl _).up rfl _).up rfl _).up rfl _).up rfl _).up rfl _).up rfl _), Fr.between F2 F17 (by omega), _, (by omega), i + 1, sq6, cq6, (some (⟨bW, oW, none⟩ : Addr)), co1_5, rfl, rfl, BA6_92, (by rw [hth]; exact slot_app rfl), (by rw [hth]; exact own_more ow6 rfl), ge6, ne6_92, ho1_5, (by rw [hth]; exact oA6_5), ge1L_5, ne1L_5_92, sp6_5, by omega, by omega, (fun k hk => (AP6.blk k hk).elim (hs9 k) (fun h => by omega))⟩
  ·
   refine lx_value (want rfl) (pick_t rfl rfl) ?_
   refine lx_nil ?_
   refine wk_cond_f rfl ?_
   refine wk_exit ?_
   refine wk_seq ?_
   refine wk_region ?_
   refine lx_value (want rfl) (mv_slice ho1_9) ?_
   refine lx_value (want rfl) (as_slice rfl) ?_
   refine lx_nil ?_
   refine wk_ret ?_
   refine retR1 Tryz.results46 (.tmp (t_slice rfl)) F3 ?_
   have e4 : i = thN x := by unfold thN; omega
   subst e4
   exact ⟨_, _, rfl, (ow1L_9).sl (by decide) rfl (fun _ _ => rfl) (fun k hk => ⟨hs9 k hk, (ow1L_9).lt hk⟩)⟩
 ·
  refine lx_value (want rfl) (mv_bool rfl) ?_
  refine lx_skip (want_if (j := 4) (d := 16) (x := true) (y := false) rfl rfl (by decide) rfl) ?_
  refine lx_skip (want_if (j := 4) (d := 16) (x := true) (y := false) rfl rfl (by decide) rfl) ?_
  refine lx_value (want rfl) (pick_f rfl rfl) ?_
  refine lx_nil ?_
  refine wk_cond_f rfl ?_
  refine wk_exit ?_
  refine wk_seq ?_
  refine wk_region ?_
  refine lx_value (want rfl) (mv_slice ho1_9) ?_
  refine lx_value (want rfl) (as_slice rfl) ?_
  refine lx_nil ?_
  refine wk_ret ?_
  refine retR1 Tryz.results46 (.tmp (t_slice rfl)) F3 ?_
  have e4 : i = thN x := by unfold thN; omega
  subst e4
  exact ⟨_, _, rfl, (ow1L_9).sl (by decide) rfl (fun _ _ => rfl) (fun k hk => ⟨hs9 k hk, (ow1L_9).lt hk⟩)⟩

set_option maxHeartbeats 2000000 in
theorem pdraw_ct (m : Mem) (hok : okM m = true) (b : Nat) (sM : Option Addr) (cM : Nat) (TM : List (SE Vl Rd)) (wt : Int) (stM : Option Addr) (nt ctM : Nat) (l : List Vl) (s : Option Addr) (c : Nat) (G : Nat → Prop) (hll : l.length ≤ 1048576) (hlv : (l.all fun v => isVal v m.length) = true) (w0 : World) (hBm : Blk w0 b [.slice sM TM.length cM, .int .i64 wt, .slice stM nt ctM] 113) (hT : TM.map SE.abs = m) (hTm : MTab w0 65 36 2 vlC 115 2 rdC sM cM TM) (hl : VlS G w0 s l) :
  CT Tryz.prog 76 [.pointer (some ⟨b, 0, none⟩), .slice s l.length c] w0 no (fun v w => PicR w0.heap.size w v (drawP (cellsOfM m) l)) := by
 have hlb := hBm.lt
 have hl2 := vl_lt hl
 have h400 := (okM_iff.1 hok).1
 have hTl : TM.length = m.length := by have := congrArg List.length hT; simpa using this
 have F0 := Fr.refl no w0
 refine ct_body Tryz.func76 rfl Tryz.ntmps76 (Nat.le_of_ble_eq_true rfl) ?_
 refine wk_seq ?_
 refine wk_region ?_
 refine lx_new (want rfl) (rn_alloc ze_45) ?_
 intro b21 w1 hb21 Eb21 B21 hlb21
 have F1 := F0.ext Eb21
 have hzb21 := Eb21.size
 refine lx_nil ?_
 refine wk_seq ?_
 refine wk_region ?_
 refine lx_makeMapB kI (want rfl) run_makeMap0 ?_
 intro b22 w2 hb22 Eb22 B22
 have F2 := F1.ext Eb22
 have hzb22 := Eb22.size
 have hlb22 := B22.lt
 refine lx_value (want rfl) (rn_build1 (t_map rfl) (fun w => bd_172_0 _ w)) ?_
 refine lx_new (want rfl) (rn_box (t_agg rfl)) ?_
 intro b23 w3 hb23 Eb23 B23 hlb23
 have F3 := F2.ext Eb23
 have hzb23 := Eb23.size
 obtain ⟨Z5, hMt, hMti⟩ := mt_new (lo := w1.heap.size) B23 (B22.ext Eb23) (by omega) (by omega) (by omega)
 have hinc := fun (k : Nat) (hk : zz zn Z5 k) => (Or.inr (hMti k hk) : zz none (fun _ => False) k ∨ w1.heap.size ≤ k)
 have tg2 : ∀ k, zz zn Z5 k → w0.heap.size ≤ k := fun k hk => (hinc k hk).elim ((fun _ h => zz_nil h) k) (fun h => by omega)
 have tn2_50 : ∀ k, zz zn Z5 k → k ≠ b := fun k hk => (hinc k hk).elim ((fun _ h => zz_nil h) k) (fun h => by have := (hBm).lt; omega)
 have tn2_21 : ∀ k, zz zn Z5 k → k ≠ b21 := fun k hk => (hinc k hk).elim ((fun _ h => zz_nil h) k) (fun h => by have := (B21).lt; omega)
 refine lx_value (want rfl) (as_pointer rfl) ?_
 refine lx_nil ?_
 refine wk_seq ?_
 refine wk_region ?_
 refine lx_value (want rfl) (mv_pointer rfl) ?_
 refine lx_value (want rfl) (mv_slice rfl) ?_
 refine lx_call (want rfl) (ent_func cf_120 (argsC (t_pointer rfl) (argsC (t_slice rfl) args0))) (meet_ct Z5 b23 [] (Nat.zero_le _) l s c (fun k => G k ∧ k < w0.heap.size) (fun k hk h => by have := tg2 k h; have := hk.2; omega) hll (vals_nn hlv) w3 hMt (hl2.fr (vl_stab _) F3 (fun _ _ h => h))) ?_
 rintro _ w4 E1 ⟨sV, cV, Z6, rfl, hOV, hgV, hMV, hiV, hdV⟩
 have F4 := F3.new E1 (fun k h => tg2 k h)
 have hz1 := E1.size
 have tg4 : ∀ k, zz zn Z6 k → w0.heap.size ≤ k := fun k hk => (hiV k hk).elim (tg2 k) (fun h => by omega)
 have tn4_50 : ∀ k, zz zn Z6 k → k ≠ b := fun k hk => (hiV k hk).elim (tn2_50 k) (fun h => by have := (hBm).lt; omega)
 have tn4_21 : ∀ k, zz zn Z6 k → k ≠ b21 := fun k hk => (hiV k hk).elim (tn2_21 k) (fun h => by have := (B21).lt; omega)
 have tt4_1 : ∀ k, zz zn Z6 k → tb none ([] : List (TE Vl)) k → False := fun k hk h2 => (hiV k hk).elim (fun h => (fun _ _ h => tb_nil h) k h h2) (fun h => by have := ((Tab.nil w3 30 36 2 vlC)).lt h2; omega)
 have ge1 : ∀ k, ob sV k → w0.heap.size ≤ k := fun k hk => (by have := hgV k hk; omega)
 have ne1_50 : ∀ k, ob sV k → k ≠ b := fun k hk => by have := hgV k hk; have := (hBm).lt; omega
 have ne1_21 : ∀ k, ob sV k → k ≠ b21 := fun k hk => by have := hgV k hk; have := (B21).lt; omega
 refine lx_value (want rfl) (rn_build1 (t_slice rfl) (fun w => bd_45_0 _ _ _ w)) ?_
 refine lx_new (want rfl) (rn_alloc ze_45) ?_
 intro b24 w5 hb24 Eb24 B24 hlb24
 have F5 := F4.ext Eb24
 have hzb24 := Eb24.size
 have nb1 : ∀ k, ob sV k → k ≠ b24 := fun k hk => by have := (hOV).lt hk; omega
 have nb2 : ∀ k, zz zn Z6 k → k ≠ b24 := fun k hk => by have := (hMV).lt hk; omega
 refine lx_set (want rfl) sz_45 rfl (t_agg rfl) rfl rfl rfl B24 (Nat.le_of_ble_eq_true rfl) ?_
 intro w6 Es1 Bs1
 have F6 := F5.set Es1 (by omega)
 have hzs1 := Es1.size
 refine lx_nil ?_
 refine wk_seq ?_
 refine wk_seq ?_
 refine wk_region ?_
 refine lx_value (want rfl) (as_int rfl) ?_
 refine lx_nil ?_
 refine wk_block ?_
 refine wk_loopA [7, 8, 16, 17, 18, 19, 20, 21, 22, 23, 24, 25, 26, 27, 28, 29, 30, 31, 32, 33, 34, 35, 36, 37, 38, 39, 40, 41, 42, 43, 44, 45, 46] (fun j => no j ∨ w0.heap.size ≤ j) (fun nM ρ w => ∃ (i : Nat) (O : List Nat) (C : List (List Vl)) (so1_2 : Option Addr) (co1_2 : Nat) (st1_1 : Option Addr) (ct1_1 : Nat) (TT1_1 : List (TE Vl)) (TT1_5 : Nat → Prop), nM = m.length - i ∧ ρ 7 = .int .i64 i ∧ Blk w b (cellsOf hBm) 113 ∧ Blk w b21 (cellsOf B21) 45 ∧ Blk w b24 [.slice so1_2 (renL [] l).length co1_2, .slice st1_1 TT1_1.length ct1_1] 45 ∧ OwnS w 36 2 so1_2 ((renL [] l).length) co1_2 ((renL [] l).flatMap vlC) ∧ (∀ k, ob so1_2 k → w0.heap.size ≤ k) ∧ (∀ k, ob so1_2 k → k ≠ b) ∧ (∀ k, ob so1_2 k → k ≠ b21) ∧ (∀ k, ob so1_2 k → k ≠ b24) ∧ Tab w 30 36 2 vlC st1_1 ct1_1 TT1_1 ∧ (∀ k, tb st1_1 TT1_1 k → w0.heap.size ≤ k) ∧ (∀ k, tb st1_1 TT1_1 k → k ≠ b) ∧ (∀ k, tb st1_1 TT1_1 k → k ≠ b21) ∧ (∀ k, tb st1_1 TT1_1 k → k ≠ b24) ∧ (∀ k, tb st1_1 TT1_1 k → ob so1_2 k → False) ∧ MtO TT1_5 w b23 O ∧ (∀ k, zz zn TT1_5 k → w0.heap.size ≤ k) ∧ (∀ k, zz zn TT1_5 k → k ≠ b) ∧ (∀ k, zz zn TT1_5 k → k ≠ b21) ∧ (∀ k, zz zn TT1_5 k → k ≠ b24) ∧ (∀ k, zz zn TT1_5 k → ob so1_2 k → False) ∧ (∀ k, tb st1_1 TT1_1 k → zz zn TT1_5 k → False) ∧ (i ≤ O.length) ∧ (MetOk m.length O) ∧ (TT1_1.map (·.2.2) = C) ∧ (C.length = i) ∧ (C ++ drawC (cellsOfM m) (m.length + 1 - i) i O = drawC (cellsOfM m) (m.length + 1) 0 (metL [] l))) _ ⟨0, (metL [] l), [], sV, cV, none, 0, ([] : List (TE Vl)), Z6, rfl, rfl, ((((((hBm.ext Eb21).ext Eb22).ext Eb23).fr E1 (fun h => tn2_50 _ h rfl)).ext Eb24).ne Es1 (by omega)), (((((B21.ext Eb22).ext Eb23).fr E1 (fun h => tn2_21 _ h rfl)).ext Eb24).ne Es1 (by omega)), (by first | exact Bs1 | (rw [List.length_append]; exact Bs1)), ((hOV.ext Eb24).ne Es1 (fun h => nb1 _ h rfl)), ge1, ne1_50, ne1_21, nb1, (Tab.nil w6 30 36 2 vlC), (fun _ h => tb_nil h), (fun _ h => tb_nil h), (fun _ h => tb_nil h), (fun _ h => tb_nil h), (fun _ h _ => tb_nil h), ((hMV.ext Eb24).fr Es1 (fun k hk h => nb2 k hk h)), tg4, tn4_50, tn4_21, nb2, (fun k h1 h2 => hdV k h2 h1), (fun k h1 h2 => tt4_1 k h2 h1), Nat.zero_le _, ((metOk_nil _).on (vals_refs hlv)), rfl, rfl, rfl⟩ ?_
 rintro n1 ρ1 w7 A1 EL1 ⟨i, O, C, so1_2, co1_2, st1_1, ct1_1, TT1_1, TT1_5, rfl, hs1_7, BL1_50, BL1_21, BL1_24, ow1L_2, ge1L_2, ne1L_2_50, ne1L_2_21, ne1L_2_24, tw1L_1, tg1L_1, tn1L_1_50, tn1L_1_21, tn1L_1_24, ts1L_1_2, tw1L_5, tg1L_5, tn1L_5_50, tn1L_5_21, tn1L_5_24, ts1L_5_2, tt1L_1_5, hi, hO, hT1, hCi, hdr⟩
 have F7 := F6.wide EL1
 have hzL1 := EL1.size
 refine wk_seq ?_
 refine wk_seq ?_
 refine wk_region ?_
 refine lx_value (want rfl) (mv_int hs1_7) ?_
 refine lx_value (want rfl) (mv_pointer (A1.at 5 rfl rfl)) ?_
 refine lx_value (want rfl) (rn_nilCheck rfl) ?_
 refine lx_value (want rfl) (rn_fieldAddr fa_172_1 rfl) ?_
 obtain ⟨bmR, sR, cR, hBR, hOR⟩ := MtO.parts tw1L_5
 refine lx_value (want rfl) (rn_load1 ag_77 rfl (hBR.cell 1 rfl)) ?_
 refine lx_value (want rfl) (rn_len Tryz.underlying77 rfl) ?_
 refine lx_value (want rfl) (rn_lss rfl rfl) ?_
 refine lx_dec (fun hlt => ?_) (fun hlt => ?_)
 ·
  obtain ⟨x, hx⟩ := getx hlt
  have hxl := hO.lt x (List.mem_of_getElem? hx)
  obtain ⟨y, hy⟩ : ∃ y, m[x]? = some y := ⟨_, List.getElem?_eq_getElem hxl⟩
  have hyv := okM_vals hok hy
  have hy100 := ((okM_Bm hok).get hy).1
  obtain ⟨sA, cA, sB, cB, he⟩ := mtab_at hT hy
  obtain ⟨bT, oT, hsT, hcA, hcB⟩ := hTm.get he
  have hltT := (List.getElem?_eq_some_iff.1 he).1
  obtain ⟨bR, oR, hsR⟩ := own_some hOR (show 0 < O.length by omega)
  subst hsR
  have hOl := hO.len
  have hTTl := congrArg List.length hT1
  rw [List.length_map] at hTTl
  refine lx_nil ?_
  refine wk_cond_t rfl ?_
  refine wk_skip ?_
  refine wk_seq ?_
  refine wk_block ?_
  refine wk_seq ?_
  refine wk_mix 15 (fun _ => .none) (by kernel_rfl) (by kernel_rfl) (fun kS G hk => by cases hk) (fun kS s y G hk => by cases hk) ?_
  simp only [List.take_succ_cons, List.take_zero, List.take_nil, List.drop_succ_cons, List.drop_zero, List.drop_nil]
  refine mx_calm rfl (want rfl) (fun u1 eu1 fu1 => mv_pointer (A1.at 5 rfl rfl)) ?_
  refine mx_calm rfl (want rfl) (fun u2 eu2 fu2 => mv_pointer (A1.at 0 rfl rfl)) ?_
  refine mx_calm rfl (want rfl) (fun u3 eu3 fu3 => rn_nilCheck rfl) ?_
  refine mx_calm rfl (want rfl) (fun u4 eu4 fu4 => rn_fieldAddr fa_113_0 rfl) ?_
  refine mx_calm rfl (want rfl) (fun u5 eu5 fu5 => rn_load1Blk ag_22 rfl (BL1_50.ext ((ext_drawn _).trans' eu5)) rfl) ?_
  refine mx_calm rfl (want rfl) (fun u6 eu6 fu6 => mv_pointer (A1.at 5 rfl rfl)) ?_
  refine mx_calm rfl (want rfl) (fun u7 eu7 fu7 => rn_nilCheck rfl) ?_
  refine mx_calm rfl (want rfl) (fun u8 eu8 fu8 => rn_fieldAddr fa_172_1 rfl) ?_
  refine mx_calm rfl (want rfl) (fun u9 eu9 fu9 => rn_load1 ag_77 rfl (((ext_drawn _).trans' eu9).cell (fun h => h) (hBR.cell 1 rfl))) ?_
  refine mx_calm rfl (want rfl) (fun u10 eu10 fu10 => mv_int hs1_7) ?_
  refine mx_calm rfl (want rfl) (fun u11 eu11 fu11 => rn_index i Tryz.underlying77 sz_3 rfl rfl rfl (by omega)) ?_
  refine mx_calm rfl (want rfl) (fun u12 eu12 fu12 => rn_load1 ag_3 rfl (((ext_drawn _).trans' eu12).cell (fun h => h) (nat_cell hOR hx))) ?_
  refine mx_calm rfl (want rfl) (fun u13 eu13 fu13 => rn_index x Tryz.underlying22 sz_65 ((rfl).trans (congrArg (fun q => Value.slice q TM.length cM) hsT)) rfl rfl hltT) ?_
  refine mx_calm rfl (want rfl) (fun u14 eu14 fu14 => rn_fieldAddr fa_65_0 rfl) ?_
  refine mx_calm rfl (want rfl) (fun u15 eu15 fu15 => rn_load1 ag_30 rfl ((F7.ext ((ext_drawn _).trans' eu15)).cell (fun h => h) (show _ = some (Value.slice sA y.1.length cA) from hcA))) ?_
  refine mx_nil (fun w8 E2' H1 HS => ?_)
  have E2 := (ext_drawn _).trans' E2'
  have F8 := F7.ext E2
  have hz2 := E2.size
  refine lx_call (want rfl) (ent_func cf_120 (argsC (t_pointer rfl) (argsC (t_slice rfl) args0))) (meet_ct TT1_5 b23 O (by omega) y.1 sA cA (fun k => k < w0.heap.size) (fun k hk h => by have := tg1L_5 k h; omega) hy100 (vals_nn hyv) w8 (tw1L_5.ext E2) (OwnS.sl (F := fun k => k < w0.heap.size) ((hTm.ownA _ _ he).fr F8 (fun _ _ h => h)) (by decide) rfl (fun _ _ => rfl) (fun k hk => hTm.lt (.inr ⟨_, _, he, .inl hk⟩)))) ?_
  rintro _ w9 E3 ⟨sN, cN, Z7, rfl, hON, hgN, hMN, hiN, hdN⟩
  have F9 := F8.new E3 (fun k h => tg1L_5 k h)
  have hz3 := E3.size
  have tg5 : ∀ k, zz zn Z7 k → w0.heap.size ≤ k := fun k hk => (hiN k hk).elim (tg1L_5 k) (fun h => by omega)
  have tn5_50 : ∀ k, zz zn Z7 k → k ≠ b := fun k hk => (hiN k hk).elim (tn1L_5_50 k) (fun h => by have := (BL1_50).lt; omega)
  have tn5_21 : ∀ k, zz zn Z7 k → k ≠ b21 := fun k hk => (hiN k hk).elim (tn1L_5_21 k) (fun h => by have := (BL1_21).lt; omega)
  have tn5_24 : ∀ k, zz zn Z7 k → k ≠ b24 := fun k hk => (hiN k hk).elim (tn1L_5_24 k) (fun h => by have := (BL1_24).lt; omega)
  have ts5_2 : ∀ k, zz zn Z7 k → ob so1_2 k → False := fun k hk h2 => (hiN k hk).elim (fun h => ts1L_5_2 k h h2) (fun h => by have := (ow1L_2).lt h2; omega)
  have tt5_1 : ∀ k, zz zn Z7 k → tb st1_1 TT1_1 k → False := fun k hk h2 => (hiN k hk).elim (fun h => (fun k h1 h2 => tt1L_1_5 k h2 h1) k h h2) (fun h => by have := (tw1L_1).lt h2; omega)
  have ge2 : ∀ k, ob sN k → w0.heap.size ≤ k := fun k hk => (by have := hgN k hk; omega)
  have ne2_50 : ∀ k, ob sN k → k ≠ b := fun k hk => by have := hgN k hk; have := (BL1_50).lt; omega
  have ne2_21 : ∀ k, ob sN k → k ≠ b21 := fun k hk => by have := hgN k hk; have := (BL1_21).lt; omega
  have ne2_24 : ∀ k, ob sN k → k ≠ b24 := fun k hk => by have := hgN k hk; have := (BL1_24).lt; omega
  have sp2_2 : ∀ k, ob sN k → ob so1_2 k → False := fun k hk h2 => by have := hgN k hk; have := (ow1L_2).lt h2; omega
  have st2_1 : ∀ k, tb st1_1 TT1_1 k → ob sN k → False := fun k hk h2 => by have := (tw1L_1).lt hk; have := hgN k h2; omega
  refine lx_value (want rfl) (as_slice rfl) ?_
  refine lx_nil ?_
  refine wk_region ?_
  refine lx_value (want rfl) (rn_fieldAddr fa_45_1 (A1.at 6 rfl rfl)) ?_
  refine lx_value (want rfl) (rn_load1Blk ag_43 rfl ((BL1_24.ext E2).fr E3 (fun h => tn1L_5_24 _ h rfl)) rfl) ?_
  refine lx_value (want rfl) (mv_slice rfl) ?_
  refine lx_newS (want rfl) (rn_bslice (xs := [.tmp 43]) Tryz.underlying43 sz_30 ze_30 rfl (argsC (t_slice rfl) args0) (CL.cons rfl rfl CL.nil) rfl (Nat.le_of_ble_eq_true rfl)) ?_
  intro b25 w10 hb25 Eb25 B25 hlb25
  have F10 := F9.ext Eb25
  have hzb25 := Eb25.size
  have nb3 : ∀ k, ob so1_2 k → k ≠ b25 := fun k hk => by have := (ow1L_2).lt hk; omega
  have nb4 : ∀ k, ob sN k → k ≠ b25 := fun k hk => by have := (hON).lt hk; omega
  have nb5 : ∀ k, tb st1_1 TT1_1 k → k ≠ b25 := fun k hk => by have := (tw1L_1).lt hk; omega
  have nb6 : ∀ k, zz zn Z7 k → k ≠ b25 := fun k hk => by have := (hMN).lt hk; omega
  have hTo3 := (((tw1L_1.ext E2).fr E3 (fun k h1 h => (fun k h1 h2 => tt1L_1_5 k h2 h1) k h h1)).ext Eb25)
  have hOo3 := (hON.ext Eb25)
  refine lx_append 24 (want rfl) Tryz.underlying43 ti_30 (by decide) rfl (by decide) rfl rfl hTo3.out ((Src.blk B25 rfl rfl)) (by omega) ?_
  intro sq3 cq3 w11 AP3
  have EA3 := AP3.fr
  have F11 := F10.new EA3 (fun k h => tg1L_1 k (.inl h))
  have hzA3 := EA3.size
  obtain ⟨tw3, ti3⟩ := Tab.snoc (e := (sN, cN, (renL O y.1))) hTo3 hOo3 (fun k hk h => st2_1 k h hk) AP3
  have tg3 : ∀ k, tb sq3 (TT1_1 ++ [(sN, cN, (renL O y.1))]) k → w0.heap.size ≤ k := fun k hk => (ti3 k hk).elim (fun h => tg1L_1 k h) (fun h => h.elim (fun h => ge2 k h) (fun h => (by omega)))
  have tn3_50 : ∀ k, tb sq3 (TT1_1 ++ [(sN, cN, (renL O y.1))]) k → k ≠ b := fun k hk => (ti3 k hk).elim (fun h => tn1L_1_50 k h) (fun h => h.elim (fun h => ne2_50 k h) (fun h => by have := ((((BL1_50.ext E2).fr E3 (fun h => tn1L_5_50 _ h rfl)).ext Eb25)).lt; omega))
  have tn3_21 : ∀ k, tb sq3 (TT1_1 ++ [(sN, cN, (renL O y.1))]) k → k ≠ b21 := fun k hk => (ti3 k hk).elim (fun h => tn1L_1_21 k h) (fun h => h.elim (fun h => ne2_21 k h) (fun h => by have := ((((BL1_21.ext E2).fr E3 (fun h => tn1L_5_21 _ h rfl)).ext Eb25)).lt; omega))
  have tn3_24 : ∀ k, tb sq3 (TT1_1 ++ [(sN, cN, (renL O y.1))]) k → k ≠ b24 := fun k hk => (ti3 k hk).elim (fun h => tn1L_1_24 k h) (fun h => h.elim (fun h => ne2_24 k h) (fun h => by have := ((((BL1_24.ext E2).fr E3 (fun h => tn1L_5_24 _ h rfl)).ext Eb25)).lt; omega))
  have tn3_25 : ∀ k, tb sq3 (TT1_1 ++ [(sN, cN, (renL O y.1))]) k → k ≠ b25 := fun k hk => (ti3 k hk).elim (fun h => nb5 k h) (fun h => h.elim (fun h => nb4 k h) (fun h => by have := (B25).lt; omega))
  have ts3_2 : ∀ k, tb sq3 (TT1_1 ++ [(sN, cN, (renL O y.1))]) k → ob so1_2 k → False := fun k hk h2 => (ti3 k hk).elim (fun h => ts1L_1_2 k h h2) (fun h => h.elim (fun h => sp2_2 k h h2) (fun h => by have := ((((ow1L_2.ext E2).fr E3 (fun k h1 h => ts1L_5_2 k h h1)).ext Eb25)).lt h2; omega))
  have tt3_5 : ∀ k, tb sq3 (TT1_1 ++ [(sN, cN, (renL O y.1))]) k → zz zn Z7 k → False := fun k hk h2 => (ti3 k hk).elim (fun h => (fun k h1 h2 => tt5_1 k h2 h1) k h h2) (fun h => h.elim (fun h => (fun k h1 h2 => hdN k h2 h1) k h2 h) (fun h => by have := ((hMN.ext Eb25)).lt h2; omega))
  refine lx_value (want rfl) (rn_fieldAddr fa_45_1 (A1.at 6 rfl rfl)) ?_
  refine lx_set (want rfl) sz_43 rfl (t_slice rfl) rfl rfl rfl ((((BL1_24.ext E2).fr E3 (fun h => tn1L_5_24 _ h rfl)).ext Eb25).fr EA3 (fun h => tn1L_1_24 _ (.inl h) rfl)) (Nat.le_of_ble_eq_true rfl) ?_
  intro w12 Es2 Bs2
  have F12 := F11.set Es2 (by omega)
  have hzs2 := Es2.size
  refine lx_nil ?_
  refine wk_region ?_
  refine lx_value (want rfl) (mv_int hs1_7) ?_
  refine lx_value (want rfl) (rn_add rfl rfl (by omega)) ?_
  refine lx_value (want rfl) (as_int rfl) ?_
  refine lx_nil ?_
  exact ⟨rfl, ((((((((((((((((((((((((((((((((((A1.up rfl _).up rfl _).up rfl _).up rfl _).up rfl _).up rfl _).up rfl _).up rfl _).up rfl _).up rfl _).up rfl _).up rfl _).up rfl _).up rfl _).up rfl _).up rfl _).up rfl _).up rfl _).up rfl _).up rfl _).up rfl _).up rfl _).up rfl _).up rfl _).up rfl _).up rfl _).up rfl _).up rfl _).up rfl _).up rfl _).none _).up rfl _).up rfl _).up rfl _), Fr.between F6 F12 (by omega), _, (by omega), i + 1, (metL O y.1), (C ++ [renL O y.1]), so1_2, co1_2, sq3, cq3, (TT1_1 ++ [(sN, cN, (renL O y.1))]), Z7, rfl, rfl, (((((BL1_50.ext E2).fr E3 (fun h => tn1L_5_50 _ h rfl)).ext Eb25).fr EA3 (fun h => tn1L_1_50 _ (.inl h) rfl)).ne Es2 (by omega)), (((((BL1_21.ext E2).fr E3 (fun h => tn1L_5_21 _ h rfl)).ext Eb25).fr EA3 (fun h => tn1L_1_21 _ (.inl h) rfl)).ne Es2 (by omega)), (by first | exact Bs2 | (rw [List.length_append]; exact Bs2)), (((((ow1L_2.ext E2).fr E3 (fun k h1 h => ts1L_5_2 k h h1)).ext Eb25).fr EA3 (fun k h1 h => ts1L_1_2 k (.inl h) h1)).ne Es2 (fun h => ne1L_2_24 _ h rfl)), ge1L_2, ne1L_2_50, ne1L_2_21, ne1L_2_24, (tw3.fr Es2 (fun k hk h => tn3_24 k hk h)), tg3, tn3_50, tn3_21, tn3_24, ts3_2, (((hMN.ext Eb25).fr EA3 (fun k h1 h => (fun k h1 h2 => tt5_1 k h2 h1) k (.inl h) h1)).fr Es2 (fun k hk h => tn5_24 k hk h)), tg5, tn5_50, tn5_21, tn5_24, ts5_2, tt3_5, (by obtain ⟨xx, hxx⟩ := metL_app y.1 O; rw [hxx, List.length_append]; omega), (hO.on (vals_refs hyv)), (by rw [List.map_append, hT1]; rfl), (by rw [List.length_append, hCi]; rfl), (draw_on hdr hx hy (by omega))⟩
 ·
  refine lx_nil ?_
  refine wk_cond_f rfl ?_
  refine wk_exit ?_
  refine wk_seq ?_
  refine wk_region ?_
  refine lx_value (want rfl) (rn_loadBlk ag_45 sz_45 (A1.at 6 rfl rfl) BL1_24 rfl rfl) ?_
  refine lx_set (want rfl) sz_45 (A1.at 4 rfl rfl) (t_agg rfl) rfl rfl rfl BL1_21 (Nat.le_of_ble_eq_true rfl) ?_
  intro w8 Es3 Bs3
  have F13 := F7.set Es3 (by omega)
  have hzs3 := Es3.size
  refine lx_nil ?_
  refine wk_ret ?_
  refine retR1 Tryz.results76 (.cell (A1.at 4 rfl rfl) (run_loadVar_blk ag_45 sz_45 Bs3 rfl rfl)) F13 ?_
  exact picR_draw (ow1L_2.ne Es3 (fun h => ne1L_2_21 _ h rfl)) ge1L_2 (tw1L_1.fr Es3 (fun k hk h => tn1L_1_21 k hk h)) hT1 hdr hlt tg1L_1

end Go.Proofs.YtnhgfmbmfjmonaaGreatDoor

/- What functions compute: pdo, open. -/
import Derived.Test.YtnhgfmbmfjmonaaGreatDoorNamesFacts
import Derived.Test.YtnhgfmbmfjmonaaGreatDoorNamesPre
import Derived.Test.YtnhgfmbmfjmonaaGreatDoorNamesWalk10
import Derived.Test.YtnhgfmbmfjmonaaGreatDoorNamesWalk2
import Derived.Test.YtnhgfmbmfjmonaaGreatDoorNamesWalk5
import Derived.Test.YtnhgfmbmfjmonaaGreatDoorNamesWalk7
import Derived.Test.YtnhgfmbmfjmonaaGreatDoorNamesWalk8
set_option maxRecDepth 100000
set_option linter.unusedVariables false
set_option linter.unusedSimpArgs false
namespace Go.Proofs.YtnhgfmbmfjmonaaGreatDoor
open Go Go.RowKit Go.Mix Go.Eng
set_option maxRecDepth 100000 in
theorem pdo_ct (Z : Nat → Prop) (b : Nat) (m : Mem) (tl : List Tl) (hok : okM m = true) (htl : tl.length ≤ 1000000000) (o : Op) (hk : 0 ≤ o.kind ∧ o.kind < 256) (w0 : World) (hM : MO Z w0 b m tl) :
  CT Tryz.prog 71 [.pointer (some ⟨b, 0, none⟩), .agg #[.int .u8 o.kind, .int .u8 o.v.1, .int .i64 o.v.2, .int .u8 o.ix.1, .int .i64 o.ix.2, .int .u8 o.val.1, .int .i64 o.val.2, .int .i64 o.rd]] w0 Z (fun v w => OutX Z w0.heap.size b m tl w v (doR m o)) := by
 have hZt1 : ∀ k, zz zn Z k → Z k := fun k h => h
 have hBl := okM_Bm hok
 have hB1 := hBl.1
 have h400 := (okM_iff.1 hok).1
 have hZb := hM.in
 have hlb := hM.lt hZb
 have F0 := Fr.refl Z w0
 have zt1 : ∀ k, zz zn Z k → Z k ∨ w0.heap.size ≤ k := fun k h => .inl (hZt1 k h)
 refine ct_body Tryz.func71 rfl Tryz.ntmps71 (Nat.le_of_ble_eq_true rfl) ?_
 refine wk_seq ?_
 refine wk_region ?_
 refine lx_new (want rfl) (rn_box (t_pointer rfl)) ?_
 intro b1 w1 hb1 Eb1 B1 hlb1
 have F1 := F0.ext Eb1
 have hzb1 := Eb1.size
 have nb1 : ∀ k, zz zn Z k → k ≠ b1 := fun k hk => by have := (hM).lt hk; omega
 refine lx_new (want rfl) (rn_box (t_agg rfl)) ?_
 intro b2 w2 hb2 Eb2 B2 hlb2
 have F2 := F1.ext Eb2
 have hzb2 := Eb2.size
 have nb2 : ∀ k, zz zn Z k → k ≠ b2 := fun k hk => by have := (hM).lt hk; omega
 refine lx_new (want rfl) (rn_alloc ze_36) ?_
 intro b3 w3 hb3 Eb3 B3 hlb3
 have F3 := F2.ext Eb3
 have hzb3 := Eb3.size
 have nb3 : ∀ k, zz zn Z k → k ≠ b3 := fun k hk => by have := (hM).lt hk; omega
 refine lx_value (want rfl) (as_int rfl) ?_
 refine lx_nil ?_
 refine wk_seq ?_
 refine wk_region ?_
 refine lx_value (want rfl) (rn_fieldAddr fa_38_1 rfl) ?_
 refine lx_value (want rfl) (rn_loadBlk ag_36 sz_36 rfl (B2.ext Eb3) rfl rfl) ?_
 refine lx_newS (want rfl) (rn_bslice (xs := [.tmp 8]) Tryz.underlying30 sz_36 ze_36 rfl (argsC (t_agg rfl) args0) (CL.cons rfl rfl CL.nil) rfl (Nat.le_of_ble_eq_true rfl)) ?_
 intro b4 w4 hb4 Eb4 B4 hlb4
 have F4 := F3.ext Eb4
 have hzb4 := Eb4.size
 have ow4 := OwnS.full (n := 1) (size := 2) B4 rfl (by decide)
 have ge1 : ∀ k, ob (some (⟨b4, 0, none⟩ : Addr)) k → Z k ∨ w0.heap.size ≤ k := fun k hk => .inr (by have := ob_some hk; omega)
 have ne1_1 : ∀ k, ob (some (⟨b4, 0, none⟩ : Addr)) k → k ≠ b1 := fun k hk => by have := ob_some hk; have := (B1).lt; omega
 have ne1_2 : ∀ k, ob (some (⟨b4, 0, none⟩ : Addr)) k → k ≠ b2 := fun k hk => by have := ob_some hk; have := (B2).lt; omega
 have ne1_3 : ∀ k, ob (some (⟨b4, 0, none⟩ : Addr)) k → k ≠ b3 := fun k hk => by have := ob_some hk; have := (B3).lt; omega
 have st1_1 : ∀ k, zz zn Z k → ob (some (⟨b4, 0, none⟩ : Addr)) k → False := fun k hk h2 => by have := (hM).lt hk; have := ob_some h2; omega
 refine lx_value (want rfl) (as_slice rfl) ?_
 refine lx_nil ?_
 refine wk_seq ?_
 refine wk_seq ?_
 refine wk_region ?_
 refine lx_value (want rfl) (rn_fieldAddr fa_38_0 rfl) ?_
 refine lx_value (want rfl) (rn_load1Blk ag_5 rfl ((B2.ext Eb3).ext Eb4) rfl) ?_
 refine lx_nil ?_
 refine wk_block ?_
 refine wk_seq ?_
 refine wk_seq ?_
 refine wk_region ?_
 refine lx_value (want rfl) (rn_eql rfl rfl) ?_
 refine lx_dec (fun k1 => ?_) (fun k1 => ?_)
 ·
  refine lx_value (want rfl) (as_bool rfl) ?_
  refine lx_nil ?_
  refine wk_cond_t rfl ?_
  refine wk_skip ?_
  refine wk_cond_t rfl ?_
  refine wk_skip ?_
  refine wk_seq ?_
  refine wk_seq ?_
  refine wk_region ?_
  refine lx_value (want rfl) (mv_slice rfl) ?_
  refine lx_value (want rfl) (rn_makeFunc (argsC (t_pointer rfl) args0)) ?_
  obtain ⟨sM, cM, TM, stM, ctM, hT, hTl, hBm, hTm, _⟩ := MO.parts ((((hM.ext Eb1).ext Eb2).ext Eb3).ext Eb4)
  refine lx_call (want rfl) (ent_func cf_73 (argsC (t_slice rfl) (argsC (t_func rfl) args0))) (containsv_ct [o.v] _ _ _ 113 [.pointer (some ⟨b1, 0, none⟩)] (fun v => !thereB m v) cf_113 w4 (OwnS.sl (l := [o.v]) (cells := vlC) (F := fun _ => True) ow4 (by decide) rfl (fun _ _ => rfl) (fun _ _ => trivial)) (by simp) (fun z w hz E => pdo1_ct z m.length hB1 b1 b sM cM _ stM _ ctM w ((((B1.ext Eb2).ext Eb3).ext Eb4).ext E) ((by rw [← hTl]; exact hBm : Blk _ _ [.slice sM m.length cM, _, _] 113).ext E))) ?_
  rintro _ w5 E1 rfl
  have F5 := F4.ext E1
  have hz1 := E1.size
  refine lx_split (fun hany => ?_) (fun hany => ?_)
  ·
   refine lx_nil ?_
   refine wk_cond_t rfl ?_
   refine wk_seq ?_
   refine wk_region ?_
   refine lx_value (want rfl) (rn_build0  (fun w => bd_36  w)) ?_
   refine lx_set (want rfl) sz_36 rfl (t_agg rfl) rfl rfl rfl ((B3.ext Eb4).ext E1) (Nat.le_of_ble_eq_true rfl) ?_
   intro w6 Es1 Bs1
   have F6 := F5.set Es1 (by omega)
   have hzs1 := Es1.size
   refine lx_value (want rfl) (as_int rfl) ?_
   refine lx_nil ?_
   refine wk_ret ?_
   refine retR2 Tryz.results71 (.cell rfl (run_loadVar_blk ag_36 sz_36 Bs1 rfl rfl)) (.tmp (t_int rfl)) F6 ?_
   exact outx_err (do_no (args_f (areL_1 ⟨by omega, by omega⟩) (by omega) hany)) (by decide) rfl ⟨Z, ((((((hM.ext Eb1).ext Eb2).ext Eb3).ext Eb4).ext E1).fr Es1 (fun k hk h => nb3 k hk h)), zt1⟩
  ·
   have hargs := args_t (areL_1 ⟨by omega, by omega⟩) (by omega) hany
   have hs := there_is (any_at hany (List.mem_cons_self ..))
   refine lx_nil ?_
   refine wk_cond_f rfl ?_
   refine wk_skip ?_
   refine wk_seq ?_
   refine wk_seq ?_
   refine wk_region ?_
   refine lx_value (want rfl) (rn_fieldAddr fa_38_0 rfl) ?_
   refine lx_value (want rfl) (rn_load1Blk ag_5 rfl (((B2.ext Eb3).ext Eb4).ext E1) rfl) ?_
   refine lx_nil ?_
   refine wk_block ?_
   refine wk_seq ?_
   refine wk_region ?_
   refine lx_value (want rfl) (rn_eql rfl rfl) ?_
   refine lx_dec_t (k1) ?_
   refine lx_value (want rfl) (as_bool rfl) ?_
   refine lx_nil ?_
   refine wk_cond_t rfl ?_
   refine wk_seq ?_
   refine wk_region ?_
   refine lx_value (want rfl) (rn_load1Blk ag_108 rfl ((((B1.ext Eb2).ext Eb3).ext Eb4).ext E1) rfl) ?_
   refine lx_value (want rfl) (rn_fieldAddr fa_38_1 rfl) ?_
   refine lx_value (want rfl) (rn_loadBlk ag_36 sz_36 rfl (((B2.ext Eb3).ext Eb4).ext E1) rfl rfl) ?_
   refine lx_call (want rfl) (ent_func cf_115 (argsC (t_pointer rfl) (argsC (t_agg rfl) args0))) (palloc_ct Z b m tl h400 o.v w5 (((((hM.ext Eb1).ext Eb2).ext Eb3).ext Eb4).ext E1)) ?_
   rintro _ w6 E2 ⟨rfl, Z2, hM2, hi2⟩
   have F7 := F5.new' E2 (fun k h => zt1 k h)
   have hz2 := E2.size
   have tg1 : ∀ k, zz zn Z2 k → Z k ∨ w0.heap.size ≤ k := fun k hk => (hi2 k hk).elim (zt1 k) (fun h => .inr (by omega))
   have tn1_1 : ∀ k, zz zn Z2 k → k ≠ b1 := fun k hk => (hi2 k hk).elim (nb1 k) (fun h => by have := (B1).lt; omega)
   have tn1_2 : ∀ k, zz zn Z2 k → k ≠ b2 := fun k hk => (hi2 k hk).elim (nb2 k) (fun h => by have := (B2).lt; omega)
   have tn1_3 : ∀ k, zz zn Z2 k → k ≠ b3 := fun k hk => (hi2 k hk).elim (nb3 k) (fun h => by have := (B3).lt; omega)
   have ts1_2 : ∀ k, zz zn Z2 k → ob (some (⟨b4, 0, none⟩ : Addr)) k → False := fun k hk h2 => (hi2 k hk).elim (fun h => st1_1 k h h2) (fun h => by have := (ow4).lt h2; omega)
   refine lx_value (want rfl) (rn_extract rfl rfl) ?_
   refine lx_value (want rfl) (rn_extract rfl rfl) ?_
   refine lx_set (want rfl) sz_36 rfl (t_agg rfl) rfl rfl rfl (((B3.ext Eb4).ext E1).fr E2 (fun h => nb3 _ h rfl)) (Nat.le_of_ble_eq_true rfl) ?_
   intro w7 Es2 Bs2
   have F8 := F7.set Es2 (by omega)
   have hzs2 := Es2.size
   refine lx_value (want rfl) (as_int rfl) ?_
   refine lx_nil ?_
   refine wk_ret ?_
   refine retR2 Tryz.results71 (.cell rfl (run_loadVar_blk ag_36 sz_36 Bs2 rfl rfl)) (.tmp (t_int rfl)) F8 ?_
   rw [do_1 hargs k1]; exact ⟨rfl, Z2, (hM2.fr Es2 (fun k hk h => tn1_3 k hk h)), tg1⟩
 ·
  refine lx_value (want rfl) (as_bool rfl) ?_
  refine lx_nil ?_
  refine wk_cond_f rfl ?_
  refine wk_region ?_
  refine lx_value (want rfl) (rn_eql rfl rfl) ?_
  refine lx_dec (fun k4 => ?_) (fun k4 => ?_)
  ·
   refine lx_value (want rfl) (as_bool rfl) ?_
   refine lx_nil ?_
   refine wk_cond_t rfl ?_
   refine wk_skip ?_
   refine wk_seq ?_
   refine wk_seq ?_
   refine wk_region ?_
   refine lx_value (want rfl) (mv_slice rfl) ?_
   refine lx_value (want rfl) (rn_makeFunc (argsC (t_pointer rfl) args0)) ?_
   obtain ⟨sM, cM, TM, stM, ctM, hT, hTl, hBm, hTm, _⟩ := MO.parts ((((hM.ext Eb1).ext Eb2).ext Eb3).ext Eb4)
   refine lx_call (want rfl) (ent_func cf_73 (argsC (t_slice rfl) (argsC (t_func rfl) args0))) (containsv_ct [o.v] _ _ _ 113 [.pointer (some ⟨b1, 0, none⟩)] (fun v => !thereB m v) cf_113 w4 (OwnS.sl (l := [o.v]) (cells := vlC) (F := fun _ => True) ow4 (by decide) rfl (fun _ _ => rfl) (fun _ _ => trivial)) (by simp) (fun z w hz E => pdo1_ct z m.length hB1 b1 b sM cM _ stM _ ctM w ((((B1.ext Eb2).ext Eb3).ext Eb4).ext E) ((by rw [← hTl]; exact hBm : Blk _ _ [.slice sM m.length cM, _, _] 113).ext E))) ?_
   rintro _ w5 E3 rfl
   have F9 := F4.ext E3
   have hz3 := E3.size
   refine lx_split (fun hany => ?_) (fun hany => ?_)
   ·
    refine lx_nil ?_
    refine wk_cond_t rfl ?_
    refine wk_seq ?_
    refine wk_region ?_
    refine lx_value (want rfl) (rn_build0  (fun w => bd_36  w)) ?_
    refine lx_set (want rfl) sz_36 rfl (t_agg rfl) rfl rfl rfl ((B3.ext Eb4).ext E3) (Nat.le_of_ble_eq_true rfl) ?_
    intro w6 Es3 Bs3
    have F10 := F9.set Es3 (by omega)
    have hzs3 := Es3.size
    refine lx_value (want rfl) (as_int rfl) ?_
    refine lx_nil ?_
    refine wk_ret ?_
    refine retR2 Tryz.results71 (.cell rfl (run_loadVar_blk ag_36 sz_36 Bs3 rfl rfl)) (.tmp (t_int rfl)) F10 ?_
    exact outx_err (do_no (args_f (areL_1 ⟨by omega, by omega⟩) (by omega) hany)) (by decide) rfl ⟨Z, ((((((hM.ext Eb1).ext Eb2).ext Eb3).ext Eb4).ext E3).fr Es3 (fun k hk h => nb3 k hk h)), zt1⟩
   ·
    have hargs := args_t (areL_1 ⟨by omega, by omega⟩) (by omega) hany
    have hs := there_is (any_at hany (List.mem_cons_self ..))
    refine lx_nil ?_
    refine wk_cond_f rfl ?_
    refine wk_skip ?_
    refine wk_seq ?_
    refine wk_seq ?_
    refine wk_region ?_
    refine lx_value (want rfl) (rn_fieldAddr fa_38_0 rfl) ?_
    refine lx_value (want rfl) (rn_load1Blk ag_5 rfl (((B2.ext Eb3).ext Eb4).ext E3) rfl) ?_
    refine lx_nil ?_
    refine wk_block ?_
    refine wk_seq ?_
    refine wk_region ?_
    refine lx_value (want rfl) (rn_eql rfl rfl) ?_
    refine lx_dec_f ((by omega)) ?_
    refine lx_value (want rfl) (as_bool rfl) ?_
    refine lx_nil ?_
    refine wk_cond_f rfl ?_
    refine wk_seq ?_
    refine wk_region ?_
    refine lx_value (want rfl) (rn_eql rfl rfl) ?_
    refine lx_dec_f ((by omega)) ?_
    refine lx_value (want rfl) (as_bool rfl) ?_
    refine lx_nil ?_
    refine wk_cond_f rfl ?_
    refine wk_seq ?_
    refine wk_region ?_
    refine lx_value (want rfl) (rn_eql rfl rfl) ?_
    refine lx_dec_f ((by omega)) ?_
    refine lx_value (want rfl) (as_bool rfl) ?_
    refine lx_nil ?_
    refine wk_cond_f rfl ?_
    refine wk_skip ?_
    refine wk_seq ?_
    refine wk_region ?_
    refine lx_value (want rfl) (rn_load1Blk ag_108 rfl ((((B1.ext Eb2).ext Eb3).ext Eb4).ext E3) rfl) ?_
    refine lx_value (want rfl) (rn_fieldAddr fa_38_1 rfl) ?_
    refine lx_value (want rfl) (rn_loadBlk ag_36 sz_36 rfl (((B2.ext Eb3).ext Eb4).ext E3) rfl rfl) ?_
    obtain ⟨sN, cN, TN, stN, ctN, hTN, _, hBN, hTmN, _⟩ := MO.parts (((((hM.ext Eb1).ext Eb2).ext Eb3).ext Eb4).ext E3)
    refine lx_call (want rfl) (ent_func cf_118 (argsC (t_pointer rfl) (argsC (t_agg rfl) args0))) (psize_ct m b sN cN TN _ stN _ ctN o.v hs w5 hBN hTN hTmN) ?_
    rintro _ w6 E4 rfl
    have F11 := F9.ext E4
    have hz4 := E4.size
    refine lx_set (want rfl) sz_36 rfl (t_agg rfl) rfl rfl rfl (((B3.ext Eb4).ext E3).ext E4) (Nat.le_of_ble_eq_true rfl) ?_
    intro w7 Es4 Bs4
    have F12 := F11.set Es4 (by omega)
    have hzs4 := Es4.size
    refine lx_value (want rfl) (as_int rfl) ?_
    refine lx_nil ?_
    refine wk_ret ?_
    refine retR2 Tryz.results71 (.cell rfl (run_loadVar_blk ag_36 sz_36 Bs4 rfl rfl)) (.tmp (t_int rfl)) F12 ?_
    exact outx_old (do_4 hargs (by omega) (by omega) (by omega)) rfl ⟨Z, (((((((hM.ext Eb1).ext Eb2).ext Eb3).ext Eb4).ext E3).ext E4).fr Es4 (fun k hk h => nb3 k hk h)), zt1⟩
  ·
   refine lx_value (want rfl) (as_bool rfl) ?_
   refine lx_nil ?_
   refine wk_cond_f rfl ?_
   refine wk_seq ?_
   refine wk_region ?_
   refine lx_value (want rfl) (rn_eql rfl rfl) ?_
   refine lx_dec (fun k3 => ?_) (fun k3 => ?_)
   ·
    refine lx_value (want rfl) (as_bool rfl) ?_
    refine lx_nil ?_
    refine wk_cond_t rfl ?_
    refine wk_region ?_
    refine lx_value (want rfl) (mv_slice rfl) ?_
    refine lx_value (want rfl) (rn_fieldAddr fa_38_2 rfl) ?_
    refine lx_value (want rfl) (rn_loadBlk ag_36 sz_36 rfl ((B2.ext Eb3).ext Eb4) rfl rfl) ?_
    refine lx_newS (want rfl) (rn_bslice (xs := [.tmp 20]) Tryz.underlying30 sz_36 ze_36 rfl (argsC (t_agg rfl) args0) (CL.cons rfl rfl CL.nil) rfl (Nat.le_of_ble_eq_true rfl)) ?_
    intro b5 w5 hb5 Eb5 B5 hlb5
    have F13 := F4.ext Eb5
    have hzb5 := Eb5.size
    have nb4 : ∀ k, ob (some (⟨b4, 0, none⟩ : Addr)) k → k ≠ b5 := fun k hk => by have := (ow4).lt hk; omega
    have nb5 : ∀ k, zz zn Z k → k ≠ b5 := fun k hk => by have := (hM).lt hk; omega
    refine lx_append 16 (want rfl) Tryz.underlying30 ti_36 (by decide) rfl (by decide) rfl rfl (ow4.ext Eb5) ((Src.blk B5 rfl rfl)) (by omega) ?_
    intro sq2 cq2 w6 AP2
    have EA2 := AP2.fr
    have ow2 := AP2.own
    have ge2 : ∀ k, ob sq2 k → Z k ∨ w0.heap.size ≤ k := fun k hk => (AP2.blk k hk).elim (ge1 k) (fun h => .inr (Nat.le_trans F13.size h))
    have ne2_1 : ∀ k, ob sq2 k → k ≠ b1 := fun k hk => (AP2.blk k hk).elim (ne1_1 k) (fun h => by have := (((((B1.ext Eb2).ext Eb3).ext Eb4).ext Eb5)).lt; omega)
    have ne2_2 : ∀ k, ob sq2 k → k ≠ b2 := fun k hk => (AP2.blk k hk).elim (ne1_2 k) (fun h => by have := ((((B2.ext Eb3).ext Eb4).ext Eb5)).lt; omega)
    have ne2_3 : ∀ k, ob sq2 k → k ≠ b3 := fun k hk => (AP2.blk k hk).elim (ne1_3 k) (fun h => by have := (((B3.ext Eb4).ext Eb5)).lt; omega)
    have ne2_5 : ∀ k, ob sq2 k → k ≠ b5 := fun k hk => (AP2.blk k hk).elim (nb4 k) (fun h => by have := (B5).lt; omega)
    have F14 := F13.new' EA2 ge1
    have hzA2 := EA2.size
    have BA2_1 := ((((B1.ext Eb2).ext Eb3).ext Eb4).ext Eb5).fr EA2 (fun h => ne1_1 _ h rfl)
    have BA2_2 := (((B2.ext Eb3).ext Eb4).ext Eb5).fr EA2 (fun h => ne1_2 _ h rfl)
    have BA2_3 := ((B3.ext Eb4).ext Eb5).fr EA2 (fun h => ne1_3 _ h rfl)
    have BA2_5 := B5.fr EA2 (fun h => nb4 _ h rfl)
    have sa2_1 : ∀ k, zz zn Z k → ob sq2 k → False := fun k hk h2 => (AP2.blk k h2).elim (fun h => st1_1 k hk h) (fun h => by have := ((((((hM.ext Eb1).ext Eb2).ext Eb3).ext Eb4).ext Eb5)).lt hk; omega)
    refine lx_value (want rfl) (as_slice rfl) ?_
    refine lx_nil ?_
    refine wk_seq ?_
    refine wk_seq ?_
    refine wk_region ?_
    refine lx_value (want rfl) (mv_slice rfl) ?_
    refine lx_value (want rfl) (rn_makeFunc (argsC (t_pointer rfl) args0)) ?_
    obtain ⟨sM, cM, TM, stM, ctM, hT, hTl, hBm, hTm, _⟩ := MO.parts ((((((hM.ext Eb1).ext Eb2).ext Eb3).ext Eb4).ext Eb5).fr EA2 (fun k hk h => st1_1 k hk h))
    refine lx_call (want rfl) (ent_func cf_73 (argsC (t_slice rfl) (argsC (t_func rfl) args0))) (containsv_ct [o.v, o.ix] _ _ _ 113 [.pointer (some ⟨b1, 0, none⟩)] (fun v => !thereB m v) cf_113 w6 (OwnS.sl (l := [o.v, o.ix]) (cells := vlC) (F := fun _ => True) ow2 (by decide) rfl (fun _ _ => rfl) (fun _ _ => trivial)) (by simp) (fun z w hz E => pdo1_ct z m.length hB1 b1 b sM cM _ stM _ ctM w (BA2_1.ext E) ((by rw [← hTl]; exact hBm : Blk _ _ [.slice sM m.length cM, _, _] 113).ext E))) ?_
    rintro _ w7 E5 rfl
    have F15 := F14.ext E5
    have hz5 := E5.size
    refine lx_split (fun hany => ?_) (fun hany => ?_)
    ·
     refine lx_nil ?_
     refine wk_cond_t rfl ?_
     refine wk_seq ?_
     refine wk_region ?_
     refine lx_value (want rfl) (rn_build0  (fun w => bd_36  w)) ?_
     refine lx_set (want rfl) sz_36 rfl (t_agg rfl) rfl rfl rfl (BA2_3.ext E5) (Nat.le_of_ble_eq_true rfl) ?_
     intro w8 Es5 Bs5
     have F16 := F15.set Es5 (by omega)
     have hzs5 := Es5.size
     refine lx_value (want rfl) (as_int rfl) ?_
     refine lx_nil ?_
     refine wk_ret ?_
     refine retR2 Tryz.results71 (.cell rfl (run_loadVar_blk ag_36 sz_36 Bs5 rfl rfl)) (.tmp (t_int rfl)) F16 ?_
     exact outx_err (do_no (args_f (areL_3 k3) (by omega) hany)) (by decide) rfl ⟨Z, ((((((((hM.ext Eb1).ext Eb2).ext Eb3).ext Eb4).ext Eb5).fr EA2 (fun k hk h => st1_1 k hk h)).ext E5).fr Es5 (fun k hk h => nb3 k hk h)), zt1⟩
    ·
     have hargs := args_t (areL_3 k3) (by omega) hany
     have hs := there_is (any_at hany (List.mem_cons_self ..))
     refine lx_nil ?_
     refine wk_cond_f rfl ?_
     refine wk_skip ?_
     refine wk_seq ?_
     refine wk_seq ?_
     refine wk_region ?_
     refine lx_value (want rfl) (rn_fieldAddr fa_38_0 rfl) ?_
     refine lx_value (want rfl) (rn_load1Blk ag_5 rfl (BA2_2.ext E5) rfl) ?_
     refine lx_nil ?_
     refine wk_block ?_
     refine wk_seq ?_
     refine wk_region ?_
     refine lx_value (want rfl) (rn_eql rfl rfl) ?_
     refine lx_dec_f ((by omega)) ?_
     refine lx_value (want rfl) (as_bool rfl) ?_
     refine lx_nil ?_
     refine wk_cond_f rfl ?_
     refine wk_seq ?_
     refine wk_region ?_
     refine lx_value (want rfl) (rn_eql rfl rfl) ?_
     refine lx_dec_f ((by omega)) ?_
     refine lx_value (want rfl) (as_bool rfl) ?_
     refine lx_nil ?_
     refine wk_cond_f rfl ?_
     refine wk_seq ?_
     refine wk_region ?_
     refine lx_value (want rfl) (rn_eql rfl rfl) ?_
     refine lx_dec_t (k3) ?_
     refine lx_value (want rfl) (as_bool rfl) ?_
     refine lx_nil ?_
     refine wk_cond_t rfl ?_
     refine wk_seq ?_
     refine wk_region ?_
     refine lx_value (want rfl) (rn_load1Blk ag_108 rfl (BA2_1.ext E5) rfl) ?_
     refine lx_value (want rfl) (rn_fieldAddr fa_38_1 rfl) ?_
     refine lx_value (want rfl) (rn_loadBlk ag_36 sz_36 rfl (BA2_2.ext E5) rfl rfl) ?_
     refine lx_value (want rfl) (rn_fieldAddr fa_38_2 rfl) ?_
     refine lx_value (want rfl) (rn_loadBlk ag_36 sz_36 rfl (BA2_2.ext E5) rfl rfl) ?_
     refine lx_value (want rfl) (rn_fieldAddr fa_38_4 rfl) ?_
     refine lx_value (want rfl) (rn_load1Blk ag_3 rfl (BA2_2.ext E5) rfl) ?_
     refine lx_call (want rfl) (ent_func cf_117 (argsC (t_pointer rfl) (argsC (t_agg rfl) (argsC (t_agg rfl) (argsC (t_int rfl) args0))))) (pread_ct Z b m tl hok o.v o.ix hs o.rd w7 (((((((hM.ext Eb1).ext Eb2).ext Eb3).ext Eb4).ext Eb5).fr EA2 (fun k hk h => st1_1 k hk h)).ext E5)) ?_
     rintro _ w8 E6 ⟨rfl, Z2, hM2, hi2⟩
     have F17 := F15.new' E6 (fun k h => zt1 k h)
     have hz6 := E6.size
     have tg2 : ∀ k, zz zn Z2 k → Z k ∨ w0.heap.size ≤ k := fun k hk => (hi2 k hk).elim (zt1 k) (fun h => .inr (by omega))
     have tn2_1 : ∀ k, zz zn Z2 k → k ≠ b1 := fun k hk => (hi2 k hk).elim (nb1 k) (fun h => by have := (BA2_1).lt; omega)
     have tn2_2 : ∀ k, zz zn Z2 k → k ≠ b2 := fun k hk => (hi2 k hk).elim (nb2 k) (fun h => by have := (BA2_2).lt; omega)
     have tn2_3 : ∀ k, zz zn Z2 k → k ≠ b3 := fun k hk => (hi2 k hk).elim (nb3 k) (fun h => by have := (BA2_3).lt; omega)
     have tn2_5 : ∀ k, zz zn Z2 k → k ≠ b5 := fun k hk => (hi2 k hk).elim (nb5 k) (fun h => by have := (BA2_5).lt; omega)
     have ts2_2 : ∀ k, zz zn Z2 k → ob sq2 k → False := fun k hk h2 => (hi2 k hk).elim (fun h => sa2_1 k h h2) (fun h => by have := (ow2).lt h2; omega)
     refine lx_value (want rfl) (rn_extract rfl rfl) ?_
     refine lx_value (want rfl) (rn_extract rfl rfl) ?_
     refine lx_set (want rfl) sz_36 rfl (t_agg rfl) rfl rfl rfl ((BA2_3.ext E5).fr E6 (fun h => nb3 _ h rfl)) (Nat.le_of_ble_eq_true rfl) ?_
     intro w9 Es6 Bs6
     have F18 := F17.set Es6 (by omega)
     have hzs6 := Es6.size
     refine lx_value (want rfl) (as_int rfl) ?_
     refine lx_nil ?_
     refine wk_ret ?_
     refine retR2 Tryz.results71 (.cell rfl (run_loadVar_blk ag_36 sz_36 Bs6 rfl rfl)) (.tmp (t_int rfl)) F18 ?_
     rw [do_3 hargs k3]; exact ⟨rfl, Z2, (hM2.fr Es6 (fun k hk h => tn2_3 k hk h)), tg2⟩
   ·
    refine lx_value (want rfl) (as_bool rfl) ?_
    refine lx_nil ?_
    refine wk_cond_f rfl ?_
    refine wk_seq ?_
    refine wk_region ?_
    refine lx_value (want rfl) (rn_eql rfl rfl) ?_
    refine lx_dec (fun k2 => ?_) (fun k2 => ?_)
    ·
     refine lx_value (want rfl) (as_bool rfl) ?_
     refine lx_nil ?_
     refine wk_cond_t rfl ?_
     refine wk_region ?_
     refine lx_value (want rfl) (mv_slice rfl) ?_
     refine lx_value (want rfl) (rn_fieldAddr fa_38_2 rfl) ?_
     refine lx_value (want rfl) (rn_loadBlk ag_36 sz_36 rfl ((B2.ext Eb3).ext Eb4) rfl rfl) ?_
     refine lx_value (want rfl) (rn_fieldAddr fa_38_3 rfl) ?_
     refine lx_value (want rfl) (rn_loadBlk ag_36 sz_36 rfl ((B2.ext Eb3).ext Eb4) rfl rfl) ?_
     refine lx_newS (want rfl) (rn_bslice (xs := [.tmp 27, .tmp 29]) Tryz.underlying30 sz_36 ze_36 rfl (argsC (t_agg rfl) (argsC (t_agg rfl) args0)) (CL.cons rfl rfl (CL.cons rfl rfl CL.nil)) rfl (Nat.le_of_ble_eq_true rfl)) ?_
     intro b6 w5 hb6 Eb6 B6 hlb6
     have F19 := F4.ext Eb6
     have hzb6 := Eb6.size
     have nb6 : ∀ k, ob (some (⟨b4, 0, none⟩ : Addr)) k → k ≠ b6 := fun k hk => by have := (ow4).lt hk; omega
     have nb7 : ∀ k, zz zn Z k → k ≠ b6 := fun k hk => by have := (hM).lt hk; omega
     refine lx_append 16 (want rfl) Tryz.underlying30 ti_36 (by decide) rfl (by decide) rfl rfl (ow4.ext Eb6) ((Src.blk B6 rfl rfl)) (by omega) ?_
     intro sq3 cq3 w6 AP3
     have EA3 := AP3.fr
     have ow3 := AP3.own
     have ge3 : ∀ k, ob sq3 k → Z k ∨ w0.heap.size ≤ k := fun k hk => (AP3.blk k hk).elim (ge1 k) (fun h => .inr (Nat.le_trans F19.size h))
     have ne3_1 : ∀ k, ob sq3 k → k ≠ b1 := fun k hk => (AP3.blk k hk).elim (ne1_1 k) (fun h => by have := (((((B1.ext Eb2).ext Eb3).ext Eb4).ext Eb6)).lt; omega)
     have ne3_2 : ∀ k, ob sq3 k → k ≠ b2 := fun k hk => (AP3.blk k hk).elim (ne1_2 k) (fun h => by have := ((((B2.ext Eb3).ext Eb4).ext Eb6)).lt; omega)
     have ne3_3 : ∀ k, ob sq3 k → k ≠ b3 := fun k hk => (AP3.blk k hk).elim (ne1_3 k) (fun h => by have := (((B3.ext Eb4).ext Eb6)).lt; omega)
     have ne3_6 : ∀ k, ob sq3 k → k ≠ b6 := fun k hk => (AP3.blk k hk).elim (nb6 k) (fun h => by have := (B6).lt; omega)
     have F20 := F19.new' EA3 ge1
     have hzA3 := EA3.size
     have BA3_1 := ((((B1.ext Eb2).ext Eb3).ext Eb4).ext Eb6).fr EA3 (fun h => ne1_1 _ h rfl)
     have BA3_2 := (((B2.ext Eb3).ext Eb4).ext Eb6).fr EA3 (fun h => ne1_2 _ h rfl)
     have BA3_3 := ((B3.ext Eb4).ext Eb6).fr EA3 (fun h => ne1_3 _ h rfl)
     have BA3_6 := B6.fr EA3 (fun h => nb6 _ h rfl)
     have sa3_1 : ∀ k, zz zn Z k → ob sq3 k → False := fun k hk h2 => (AP3.blk k h2).elim (fun h => st1_1 k hk h) (fun h => by have := ((((((hM.ext Eb1).ext Eb2).ext Eb3).ext Eb4).ext Eb6)).lt hk; omega)
     refine lx_value (want rfl) (as_slice rfl) ?_
     refine lx_nil ?_
     refine wk_seq ?_
     refine wk_seq ?_
     refine wk_region ?_
     refine lx_value (want rfl) (mv_slice rfl) ?_
     refine lx_value (want rfl) (rn_makeFunc (argsC (t_pointer rfl) args0)) ?_
     obtain ⟨sM, cM, TM, stM, ctM, hT, hTl, hBm, hTm, _⟩ := MO.parts ((((((hM.ext Eb1).ext Eb2).ext Eb3).ext Eb4).ext Eb6).fr EA3 (fun k hk h => st1_1 k hk h))
     refine lx_call (want rfl) (ent_func cf_73 (argsC (t_slice rfl) (argsC (t_func rfl) args0))) (containsv_ct [o.v, o.ix, o.val] _ _ _ 113 [.pointer (some ⟨b1, 0, none⟩)] (fun v => !thereB m v) cf_113 w6 (OwnS.sl (l := [o.v, o.ix, o.val]) (cells := vlC) (F := fun _ => True) ow3 (by decide) rfl (fun _ _ => rfl) (fun _ _ => trivial)) (by simp) (fun z w hz E => pdo1_ct z m.length hB1 b1 b sM cM _ stM _ ctM w (BA3_1.ext E) ((by rw [← hTl]; exact hBm : Blk _ _ [.slice sM m.length cM, _, _] 113).ext E))) ?_
     rintro _ w7 E7 rfl
     have F21 := F20.ext E7
     have hz7 := E7.size
     refine lx_split (fun hany => ?_) (fun hany => ?_)
     ·
      refine lx_nil ?_
      refine wk_cond_t rfl ?_
      refine wk_seq ?_
      refine wk_region ?_
      refine lx_value (want rfl) (rn_build0  (fun w => bd_36  w)) ?_
      refine lx_set (want rfl) sz_36 rfl (t_agg rfl) rfl rfl rfl (BA3_3.ext E7) (Nat.le_of_ble_eq_true rfl) ?_
      intro w8 Es7 Bs7
      have F22 := F21.set Es7 (by omega)
      have hzs7 := Es7.size
      refine lx_value (want rfl) (as_int rfl) ?_
      refine lx_nil ?_
      refine wk_ret ?_
      refine retR2 Tryz.results71 (.cell rfl (run_loadVar_blk ag_36 sz_36 Bs7 rfl rfl)) (.tmp (t_int rfl)) F22 ?_
      exact outx_err (do_no (args_f (areL_2 k2) (by omega) hany)) (by decide) rfl ⟨Z, ((((((((hM.ext Eb1).ext Eb2).ext Eb3).ext Eb4).ext Eb6).fr EA3 (fun k hk h => st1_1 k hk h)).ext E7).fr Es7 (fun k hk h => nb3 k hk h)), zt1⟩
     ·
      have hargs := args_t (areL_2 k2) (by omega) hany
      have hs := there_is (any_at hany (List.mem_cons_self ..))
      refine lx_nil ?_
      refine wk_cond_f rfl ?_
      refine wk_skip ?_
      refine wk_seq ?_
      refine wk_seq ?_
      refine wk_region ?_
      refine lx_value (want rfl) (rn_fieldAddr fa_38_0 rfl) ?_
      refine lx_value (want rfl) (rn_load1Blk ag_5 rfl (BA3_2.ext E7) rfl) ?_
      refine lx_nil ?_
      refine wk_block ?_
      refine wk_seq ?_
      refine wk_region ?_
      refine lx_value (want rfl) (rn_eql rfl rfl) ?_
      refine lx_dec_f ((by omega)) ?_
      refine lx_value (want rfl) (as_bool rfl) ?_
      refine lx_nil ?_
      refine wk_cond_f rfl ?_
      refine wk_seq ?_
      refine wk_region ?_
      refine lx_value (want rfl) (rn_eql rfl rfl) ?_
      refine lx_dec_t (k2) ?_
      refine lx_value (want rfl) (as_bool rfl) ?_
      refine lx_nil ?_
      refine wk_cond_t rfl ?_
      refine wk_seq ?_
      refine wk_region ?_
      refine lx_value (want rfl) (rn_load1Blk ag_108 rfl (BA3_1.ext E7) rfl) ?_
      refine lx_value (want rfl) (rn_fieldAddr fa_38_1 rfl) ?_
      refine lx_value (want rfl) (rn_loadBlk ag_36 sz_36 rfl (BA3_2.ext E7) rfl rfl) ?_
      refine lx_value (want rfl) (rn_fieldAddr fa_38_2 rfl) ?_
      refine lx_value (want rfl) (rn_loadBlk ag_36 sz_36 rfl (BA3_2.ext E7) rfl rfl) ?_
      refine lx_value (want rfl) (rn_fieldAddr fa_38_3 rfl) ?_
      refine lx_value (want rfl) (rn_loadBlk ag_36 sz_36 rfl (BA3_2.ext E7) rfl rfl) ?_
      refine lx_call (want rfl) (ent_func cf_116 (argsC (t_pointer rfl) (argsC (t_agg rfl) (argsC (t_agg rfl) (argsC (t_agg rfl) args0))))) (pwrite_ct Z b m tl hok htl o.v o.ix hs o.val w7 (((((((hM.ext Eb1).ext Eb2).ext Eb3).ext Eb4).ext Eb6).fr EA3 (fun k hk h => st1_1 k hk h)).ext E7)) ?_
      rintro _ w8 E8 ⟨rfl, Z2, hM2, hi2⟩
      have F23 := F21.new' E8 (fun k h => zt1 k h)
      have hz8 := E8.size
      have tg3 : ∀ k, zz zn Z2 k → Z k ∨ w0.heap.size ≤ k := fun k hk => (hi2 k hk).elim (zt1 k) (fun h => .inr (by omega))
      have tn3_1 : ∀ k, zz zn Z2 k → k ≠ b1 := fun k hk => (hi2 k hk).elim (nb1 k) (fun h => by have := (BA3_1).lt; omega)
      have tn3_2 : ∀ k, zz zn Z2 k → k ≠ b2 := fun k hk => (hi2 k hk).elim (nb2 k) (fun h => by have := (BA3_2).lt; omega)
      have tn3_3 : ∀ k, zz zn Z2 k → k ≠ b3 := fun k hk => (hi2 k hk).elim (nb3 k) (fun h => by have := (BA3_3).lt; omega)
      have tn3_6 : ∀ k, zz zn Z2 k → k ≠ b6 := fun k hk => (hi2 k hk).elim (nb7 k) (fun h => by have := (BA3_6).lt; omega)
      have ts3_2 : ∀ k, zz zn Z2 k → ob sq3 k → False := fun k hk h2 => (hi2 k hk).elim (fun h => sa3_1 k h h2) (fun h => by have := (ow3).lt h2; omega)
      refine lx_value (want rfl) (rn_extract rfl rfl) ?_
      refine lx_value (want rfl) (rn_extract rfl rfl) ?_
      refine lx_set (want rfl) sz_36 rfl (t_agg rfl) rfl rfl rfl ((BA3_3.ext E7).fr E8 (fun h => nb3 _ h rfl)) (Nat.le_of_ble_eq_true rfl) ?_
      intro w9 Es8 Bs8
      have F24 := F23.set Es8 (by omega)
      have hzs8 := Es8.size
      refine lx_value (want rfl) (as_int rfl) ?_
      refine lx_nil ?_
      refine wk_ret ?_
      refine retR2 Tryz.results71 (.cell rfl (run_loadVar_blk ag_36 sz_36 Bs8 rfl rfl)) (.tmp (t_int rfl)) F24 ?_
      rw [do_2 hargs k2]; exact ⟨rfl, Z2, (hM2.fr Es8 (fun k hk h => tn3_3 k hk h)), tg3⟩
    ·
     refine lx_value (want rfl) (as_bool rfl) ?_
     refine lx_nil ?_
     refine wk_cond_f rfl ?_
     refine wk_seq ?_
     refine wk_region ?_
     refine lx_value (want rfl) (rn_build0  (fun w => bd_36  w)) ?_
     refine lx_set (want rfl) sz_36 rfl (t_agg rfl) rfl rfl rfl (B3.ext Eb4) (Nat.le_of_ble_eq_true rfl) ?_
     intro w5 Es9 Bs9
     have F25 := F4.set Es9 (by omega)
     have hzs9 := Es9.size
     refine lx_value (want rfl) (as_int rfl) ?_
     refine lx_nil ?_
     refine wk_ret ?_
     refine retR2 Tryz.results71 (.cell rfl (run_loadVar_blk ag_36 sz_36 Bs9 rfl rfl)) (.tmp (t_int rfl)) F25 ?_
     exact outx_err (do_no (args_in (by omega))) (by decide) rfl ⟨Z, (((((hM.ext Eb1).ext Eb2).ext Eb3).ext Eb4).fr Es9 (fun k hk h => nb3 k hk h)), zt1⟩

set_option maxRecDepth 100000 in
theorem open_ct (m : Mem) (s : Option Addr) (c : Nat) (G : Nat → Prop) (hB : Bm m) (w0 : World) (hm : MemS G w0 s m) :
  CT Tryz.prog 70 [.agg #[.slice s m.length c]] w0 no (fun v w => OpenR w0.heap.size w v m) := by
 have hBl := hB.1
 have F0 := Fr.refl no w0
 refine ct_body Tryz.func70 rfl Tryz.ntmps70 (Nat.le_of_ble_eq_true rfl) ?_
 refine wk_seq ?_
 refine wk_region ?_
 refine lx_new (want rfl) (rn_box (t_agg rfl)) ?_
 intro b1 w1 hb1 Eb1 B1 hlb1
 have F1 := F0.ext Eb1
 have hzb1 := Eb1.size
 refine lx_value (want rfl) (as_pointer rfl) ?_
 refine lx_value (want rfl) (as_int rfl) ?_
 refine lx_nil ?_
 refine wk_seq ?_
 refine wk_region ?_
 refine lx_value (want rfl) (rn_build0  (fun w => bd_113  w)) ?_
 refine lx_new (want rfl) (rn_box (t_agg rfl)) ?_
 intro b2 w2 hb2 Eb2 B2 hlb2
 have F2 := F1.ext Eb2
 have hzb2 := Eb2.size
 refine lx_value (want rfl) (as_pointer rfl) ?_
 refine lx_nil ?_
 refine wk_seq ?_
 refine wk_seq ?_
 refine wk_region ?_
 refine lx_value (want rfl) (rn_fieldAddr fa_24_0 rfl) ?_
 refine lx_value (want rfl) (rn_load1Blk ag_22 rfl (B1.ext Eb2) rfl) ?_
 refine lx_value (want rfl) (rn_len Tryz.underlying22 rfl) ?_
 refine lx_value (want rfl) (rn_gtr rfl rfl) ?_
 refine lx_dec (fun h400 => ?_) (fun h400 => ?_)
 ·
  refine lx_nil ?_
  refine wk_cond_t rfl ?_
  refine wk_seq ?_
  refine wk_region ?_
  refine lx_value (want rfl) (as_pointer rfl) ?_
  refine lx_value (want rfl) (as_int rfl) ?_
  refine lx_nil ?_
  refine wk_ret ?_
  refine retR2 Tryz.results70 (.tmp (t_pointer rfl)) (.tmp (t_int rfl)) F2 ?_
  exact open_no (fun g => by have := (okM_iff.1 g).1; omega)
 ·
  refine lx_nil ?_
  refine wk_cond_f rfl ?_
  refine wk_skip ?_
  refine wk_seq ?_
  refine wk_seq ?_
  refine wk_region ?_
  refine lx_value (want rfl) (rn_fieldAddr fa_24_0 rfl) ?_
  refine lx_value (want rfl) (rn_load1Blk ag_22 rfl (B1.ext Eb2) rfl) ?_
  refine lx_value (want rfl) (rn_len Tryz.underlying22 rfl) ?_
  refine lx_value (want rfl) (mv_int rfl) ?_
  refine lx_nil ?_
  refine wk_block ?_
  refine wk_loopA [2, 3, 6, 16, 17, 18, 19, 20, 21, 22, 23, 24, 25, 26, 27, 28, 29, 30, 31, 32, 33, 34, 35, 36, 37, 38, 39, 40, 41, 42, 43, 44, 45, 46, 47, 48, 49, 50, 51, 52, 53, 54, 55, 56, 57, 58, 59] (fun j => no j ∨ w0.heap.size ≤ j) (fun nM ρ w => ∃ (i : Nat) (st1_1 : Option Addr) (ct1_1 : Nat) (TT1_1 : List (SE Vl Rd)), nM = m.length - i ∧ ρ 16 = .int .i64 i ∧ Blk w b1 (cellsOf B1) 24 ∧ Blk w b2 [.slice st1_1 TT1_1.length ct1_1, .int .i64 (waits (m.take i) : Nat), .slice none 0 0] 113 ∧ MTab w 65 36 2 vlC 115 2 rdC st1_1 ct1_1 TT1_1 ∧ (∀ k, mtb st1_1 TT1_1 k → w0.heap.size ≤ k) ∧ (∀ k, mtb st1_1 TT1_1 k → k ≠ b1) ∧ (∀ k, mtb st1_1 TT1_1 k → k ≠ b2) ∧ (i ≤ m.length) ∧ (TT1_1.map SE.abs = m.take i) ∧ ((m.take i).all (stB m.length) = true) ∧ (waits (m.take i) ≤ 6000)) _ ⟨0, none, 0, ([] : List (SE Vl Rd)), rfl, rfl, (B1.ext Eb2), (by first | exact B2 | (rw [hws]; exact B2)), (MTab.nil w2 65 36 2 vlC 115 2 rdC), (fun _ h => mtb_nil h), (fun _ h => mtb_nil h), (fun _ h => mtb_nil h), by omega, rfl, rfl, (Nat.zero_le 6000)⟩ ?_
  rintro n1 ρ1 w3 A1 EL1 ⟨i, st1_1, ct1_1, TT1_1, rfl, hs1_16, BL1_1, BL1_2, tw1L_1, tg1L_1, tn1L_1_1, tn1L_1_2, hi, hT, hq, hw⟩
  have F3 := F2.wide EL1
  have hzL1 := EL1.size
  refine wk_seq ?_
  refine wk_region ?_
  refine lx_value (want rfl) (rn_lss hs1_16 (A1.at 15 rfl rfl)) ?_
  refine lx_dec (fun hlt => ?_) (fun hlt => ?_)
  ·
   obtain ⟨x, hx⟩ := getx hlt
   obtain ⟨bx, ox, rfl, _, sc, cc, sw, cw, hcx, hcy, hcv, hcr⟩ := hm i x hx
   have hBx := hB.get hx
   have hwl := waits_le m (i + 1)
   have hws := waits_step hx
   have hBw := hB.2.2
   have hTi : TT1_1.length = i := by have := congrArg List.length hT; simp at this; omega
   refine lx_nil ?_
   refine wk_seq ?_
   refine wk_cond_t rfl ?_
   refine wk_skip ?_
   refine wk_seq ?_
   refine wk_block ?_
   refine wk_seq ?_
   refine wk_region ?_
   refine lx_value (want rfl) (rn_index _ Tryz.underlying22 sz_65 (A1.at 14 rfl rfl) hs1_16 rfl (by omega)) ?_
   refine lx_value (want rfl) (rn_load2 ag_65 sz_65 rfl (F3.cell (fun h => h) hcx) (F3.cell (fun h => h) hcy)) ?_
   refine lx_new (want rfl) (rn_alloc ze_65) ?_
   intro b3 w4 hb3 Eb3 B3 hlb3
   have F4 := F3.ext Eb3
   have hzb3 := Eb3.size
   have nb1 : ∀ k, mtb st1_1 TT1_1 k → k ≠ b3 := fun k hk => by have := (tw1L_1).lt hk; omega
   refine lx_set (want rfl) sz_65 rfl (t_agg rfl) rfl rfl rfl B3 (Nat.le_of_ble_eq_true rfl) ?_
   intro w5 Es1 Bs1
   have F5 := F4.set Es1 (by omega)
   have hzs1 := Es1.size
   refine lx_nil ?_
   refine wk_seq ?_
   refine wk_seq ?_
   refine wk_mix 7 (fun _ => .none) (by kernel_rfl) (by kernel_rfl) (fun kS G hk => by cases hk) (fun kS s y G hk => by cases hk) ?_
   simp only [List.take_succ_cons, List.take_zero, List.take_nil, List.drop_succ_cons, List.drop_zero, List.drop_nil]
   refine mx_calm rfl (want rfl) (fun u1 eu1 fu1 => mv_pointer (A1.at 4 rfl rfl)) ?_
   refine mx_calm rfl (want rfl) (fun u2 eu2 fu2 => rn_nilCheck rfl) ?_
   refine mx_calm rfl (want rfl) (fun u3 eu3 fu3 => rn_fieldAddr fa_113_1 rfl) ?_
   refine mx_calm rfl (want rfl) (fun u4 eu4 fu4 => rn_load1Blk ag_3 rfl (((BL1_2.ext Eb3).ne Es1 (by omega)).ext ((ext_drawn _).trans' eu4)) rfl) ?_
   refine mx_calm rfl (want rfl) (fun u5 eu5 fu5 => rn_fieldAddr fa_65_1 rfl) ?_
   refine mx_calm rfl (want rfl) (fun u6 eu6 fu6 => rn_load1Blk ag_63 rfl (Bs1.ext ((ext_drawn _).trans' eu6)) rfl) ?_
   refine mx_calm rfl (want rfl) (fun u7 eu7 fu7 => rn_len Tryz.underlying63 rfl) ?_
   refine mx_nil (fun w6 E1' H1 HS => ?_)
   have E1 := (ext_drawn _).trans' E1'
   have F6 := F5.ext E1
   have hz1 := E1.size
   refine lx_value (want rfl) (rn_addN rfl rfl (by omega)) ?_
   refine lx_value (want rfl) (rn_nilCheck rfl) ?_
   refine lx_value (want rfl) (rn_fieldAddr fa_113_1 rfl) ?_
   refine lx_set (want rfl) sz_3 rfl (t_int rfl) rfl rfl rfl (((BL1_2.ext Eb3).ne Es1 (by omega)).ext E1) (Nat.le_of_ble_eq_true rfl) ?_
   intro w7 Es2 Bs2
   have F7 := F6.set Es2 (by omega)
   have hzs2 := Es2.size
   refine lx_nil ?_
   refine wk_seq ?_
   refine wk_region ?_
   refine lx_value (want rfl) (mv_pointer (A1.at 4 rfl rfl)) ?_
   refine lx_value (want rfl) (rn_nilCheck rfl) ?_
   refine lx_value (want rfl) (rn_fieldAddr fa_113_1 rfl) ?_
   refine lx_value (want rfl) (rn_load1Blk ag_3 rfl Bs2 rfl) ?_
   refine lx_value (want rfl) (rn_gtr rfl rfl) ?_
   refine lx_dec (fun h6000 => ?_) (fun h6000 => ?_)
   ·
    refine lx_value (want rfl) (mv_bool rfl) ?_
    refine lx_skip (want_if (j := 5) (d := 35) (x := false) (y := true) rfl rfl (by decide) rfl) ?_
    refine lx_skip (want_if (j := 5) (d := 35) (x := false) (y := true) rfl rfl (by decide) rfl) ?_
    refine lx_skip (want_if (j := 5) (d := 35) (x := false) (y := true) rfl rfl (by decide) rfl) ?_
    refine lx_skip (want_if (j := 5) (d := 35) (x := false) (y := true) rfl rfl (by decide) rfl) ?_
    refine lx_skip (want_if (j := 5) (d := 35) (x := false) (y := true) rfl rfl (by decide) rfl) ?_
    refine lx_skip (want_if (j := 5) (d := 35) (x := false) (y := true) rfl rfl (by decide) rfl) ?_
    refine lx_value (want rfl) (pick_t rfl rfl) ?_
    refine lx_nil ?_
    refine wk_cond_t rfl ?_
    refine wk_seq ?_
    refine wk_region ?_
    refine lx_value (want rfl) (as_pointer rfl) ?_
    refine lx_value (want rfl) (as_int rfl) ?_
    refine lx_nil ?_
    refine wk_ret ?_
    refine retR2 Tryz.results70 (.tmp (t_pointer rfl)) (.tmp (t_int rfl)) F7 ?_
    exact open_no (waits_lt (by rw [hws]; exact h6000))
   ·
    refine lx_value (want rfl) (mv_bool rfl) ?_
    refine lx_value (want_if (j := 5) (d := 35) (x := false) (y := false) rfl rfl (by decide) rfl) (rn_loadBlk ag_65 sz_65 rfl ((Bs1.ext E1).ne Es2 (by omega)) rfl rfl) ?_
    refine lx_value (want_if (j := 5) (d := 35) (x := false) (y := false) rfl rfl (by decide) rfl) (rn_fieldAddr fa_24_0 (A1.at 1 rfl rfl)) ?_
    refine lx_value (want_if (j := 5) (d := 35) (x := false) (y := false) rfl rfl (by decide) rfl) (rn_load1Blk ag_22 rfl ((((BL1_1.ext Eb3).ne Es1 (by omega)).ext E1).ne Es2 (by omega)) rfl) ?_
    refine lx_value (want_if (j := 5) (d := 35) (x := false) (y := false) rfl rfl (by decide) rfl) (rn_len Tryz.underlying22 rfl) ?_
    refine lx_call (want_if (j := 5) (d := 35) (x := false) (y := false) rfl rfl (by decide) rfl) (ent_func cf_110 (argsC (t_agg rfl) (argsC (t_int rfl) args0))) (isstruct_ct x m.length _ _ _ _ _ hBl hBx w7 (hcv.fr (vl_stab _) F7 (fun _ _ h => h)) (hcr.fr (rd_stab _) F7 (fun _ _ h => h))) ?_
    rintro _ w8 E2 rfl
    have F8 := F7.ext E2
    have hz2 := E2.size
    refine lx_split (fun hst => ?_) (fun hst => ?_)
    ·
     refine lx_value (want_if (j := 5) (d := 35) (x := false) (y := false) rfl rfl (by decide) rfl) (rn_not rfl) ?_
     refine lx_value (want rfl) (pick_f rfl rfl) ?_
     refine lx_nil ?_
     refine wk_cond_f rfl ?_
     refine wk_skip ?_
     have hTo := (((((tw1L_1.ext Eb3).fr Es1 (fun k hk h => nb1 k hk h)).ext E1).fr Es2 (fun k hk h => tn1L_1_2 k hk h)).ext E2)
     have hSl : ∀ k, (ob st1_1) k → k < w8.heap.size := fun k h => ((((((tw1L_1.ext Eb3).fr Es1 (fun k hk h => nb1 k hk h)).ext E1).fr Es2 (fun k hk h => tn1L_1_2 k hk h)).ext E2)).lt (.inl h)
     refine wk_mixA 14 13 (ob st1_1) (fun kS => match kS with | 7 => .any (fun I v w => ∃ s c, v = .slice s x.1.length c ∧ OwnS w 36 2 s x.1.length c (x.1.flatMap vlC) ∧ ∀ k, ob s k → w8.heap.size ≤ k) | 10 => .any (fun I v w => ∃ s c, v = .slice s x.2.length c ∧ OwnS w 115 2 s x.2.length c (x.2.flatMap rdC) ∧ ∀ k, ob s k → w8.heap.size ≤ k) | 11 => .any (fun I v w => ∃ s1 c1 s2 c2, v = .agg #[.slice s1 x.1.length c1, .slice s2 x.2.length c2] ∧ OwnS w 36 2 s1 x.1.length c1 (x.1.flatMap vlC) ∧ (∀ k, ob s1 k → w8.heap.size ≤ k) ∧ OwnS w 115 2 s2 x.2.length c2 (x.2.flatMap rdC) ∧ ∀ k, ob s2 k → w8.heap.size ≤ k) | 12 => .any (fun I v w => ∃ b s1 c1 s2 c2, v = .slice (some ⟨b, 0, none⟩) 1 1 ∧ w8.heap.size ≤ b ∧ Blk w b [.slice s1 x.1.length c1, .slice s2 x.2.length c2] 65 ∧ OwnS w 36 2 s1 x.1.length c1 (x.1.flatMap vlC) ∧ (∀ k, ob s1 k → w8.heap.size ≤ k) ∧ OwnS w 115 2 s2 x.2.length c2 (x.2.flatMap rdC) ∧ ∀ k, ob s2 k → w8.heap.size ≤ k) | 13 => .any (fun I v w => ∃ (e : SE Vl Rd) (s : Option Addr) (c : Nat), v = .slice s (TT1_1 ++ [e]).length c ∧ e.abs = x ∧ MTab w 65 36 2 vlC 115 2 rdC s c (TT1_1 ++ [e]) ∧ ∀ k, mtb s (TT1_1 ++ [e]) k → (mtb st1_1 TT1_1 k ∨ w8.heap.size ≤ k)) | _ => .none) (by kernel_rfl) (by kernel_rfl) (by intro kS G hk; (try dsimp only at hk); (split at hk) <;> first | (cases hk; done) | (injection hk with hk; subst hk; exact ⟨by intro j hkj I v w w' hR hG; first | exact hG | (obtain ⟨s, c, h1, h2, h3⟩ := hG; exact ⟨s, c, h1, h2.fr (mS hR) (fun k hk hs => by have := h3 k hk; have := hTo.out.lt hs; omega), h3⟩) | (obtain ⟨s, c, h1, h2, h3⟩ := hG; exact ⟨s, c, h1, h2.fr (mS hR) (fun k hk hs => by have := h3 k hk; have := hTo.out.lt hs; omega), h3⟩) | (obtain ⟨s1, c1, s2, c2, h1, h4, h5, h6, h7⟩ := hG; exact ⟨s1, c1, s2, c2, h1, h4.fr (mS hR) (fun k hk hs => by have := h5 k hk; have := hTo.out.lt hs; omega), h5, h6.fr (mS hR) (fun k hk hs => by have := h7 k hk; have := hTo.out.lt hs; omega), h7⟩) | (obtain ⟨b, s1, c1, s2, c2, h1, h2, h3, h4, h5, h6, h7⟩ := hG; exact ⟨b, s1, c1, s2, c2, h1, h2, h3.fr (mS hR) (fun hs => by have := hTo.out.lt hs; omega), h4.fr (mS hR) (fun k hk hs => by have := h5 k hk; have := hTo.out.lt hs; omega), h5, h6.fr (mS hR) (fun k hk hs => by have := h7 k hk; have := hTo.out.lt hs; omega), h7⟩) | (obtain ⟨e, s, c, h1, h2, h3, h4⟩ := hG; exact ⟨e, s, c, h1, h2, h3.ext (mT hkj hR), h4⟩), fun ⟨_, _, _, _, hs⟩ => by (try dsimp only at hs); split at hs <;> cases hs⟩)) (by intro kS s y G hk; (try dsimp only at hk); split at hk <;> cases hk) ?_
     simp only [List.take_succ_cons, List.take_zero, List.take_nil, List.drop_succ_cons, List.drop_zero, List.drop_nil]
     refine mx_calm rfl (want rfl) (fun u8 eu8 fu8 => mv_pointer (A1.at 4 rfl rfl)) ?_
     refine mx_calm rfl (want rfl) (fun u9 eu9 fu9 => mv_pointer (A1.at 4 rfl rfl)) ?_
     refine mx_calm rfl (want rfl) (fun u10 eu10 fu10 => rn_nilCheck rfl) ?_
     refine mx_calm rfl (want rfl) (fun u11 eu11 fu11 => rn_fieldAddr fa_113_0 rfl) ?_
     refine mx_calm rfl (want rfl) (fun u12 eu12 fu12 => rn_load1Blk ag_22 rfl ((Bs2.ext E2).fr (mD (by decide) eu12) (fun h => tn1L_1_2 _ (.inl h) rfl)) rfl) ?_
     refine mx_calm rfl (want rfl) (fun u13 eu13 fu13 => rn_fieldAddr fa_65_0 rfl) ?_
     refine mx_calm rfl (want rfl) (fun u14 eu14 fu14 => rn_load1Blk ag_30 rfl ((((Bs1.ext E1).ne Es2 (by omega)).ext E2).fr (mD (by decide) eu14) (fun h => nb1 _ (.inl h) rfl)) rfl) ?_
     refine mx_any rfl rfl (want rfl) (fun u15 eu15 fu15 => do_call (ent_func cf_111 (argsC (t_slice rfl) args0)) (clonev_ct x.1 _ _ _ u15 (hcv.fr (vl_stab _) (F8.new (mD (by decide) eu15) (fun k h => tg1L_1 k (.inl h))) (fun _ _ h => h)) hBx.1) (fun v w' E h => ⟨(mE (by decide) E), by obtain ⟨s, c, h1, h2, h3⟩ := h; exact ⟨s, c, h1, h2, fun k hk => Nat.le_trans (mD (by decide) eu15).size (h3 k hk)⟩⟩)) (fun I50 v50 => ?_)
     refine mx_calm rfl (want rfl) (fun u16 eu16 fu16 => rn_fieldAddr fa_65_1 rfl) ?_
     refine mx_calm rfl (want rfl) (fun u17 eu17 fu17 => rn_load1Blk ag_63 rfl ((((Bs1.ext E1).ne Es2 (by omega)).ext E2).fr (mD (by decide) eu17) (fun h => nb1 _ (.inl h) rfl)) rfl) ?_
     refine mx_any rfl rfl (want rfl) (fun u18 eu18 fu18 => do_call (ent_func cf_112 (argsC (t_slice rfl) args0)) (cloner_ct x.2 _ _ _ u18 (hcr.fr (rd_stab _) (F8.new (mD (by decide) eu18) (fun k h => tg1L_1 k (.inl h))) (fun _ _ h => h)) hBx.2) (fun v w' E h => ⟨(mE (by decide) E), by obtain ⟨s, c, h1, h2, h3⟩ := h; exact ⟨s, c, h1, h2, fun k hk => Nat.le_trans (mD (by decide) eu18).size (h3 k hk)⟩⟩)) (fun I53 v53 => ?_)
     refine mx_any rfl rfl (want rfl) (fun u19 eu19 fu19 => by obtain ⟨s1, c1, rfl, h23, hg23⟩ := fu19 50 _ rfl (show (50 : Nat) ∈ _ from by decide); obtain ⟨s2, c2, rfl, h27, hg27⟩ := fu19 53 _ rfl (show (53 : Nat) ∈ _ from by decide); exact do_value (rn_build2 (t_slice rfl) (t_slice rfl) (fun w => bd_65_0_1 _ _ _ _ _ _ w)) ⟨(mE (by decide) (Fr.refl no _)), ⟨s1, c1, s2, c2, rfl, h23, hg23, h27, hg27⟩⟩) (fun I54 v54 => ?_)
     refine mx_any rfl rfl (want rfl) (fun u20 eu20 fu20 => by obtain ⟨s1, c1, s2, c2, rfl, h23, hg23, h27, hg27⟩ := fu20 54 _ rfl (show (54 : Nat) ∈ _ from by decide); exact (do_newS2 (rn_bslice (xs := [.tmp 54]) Tryz.underlying22 sz_65 ze_65 rfl (argsC (t_agg rfl) args0) (CL.cons rfl rfl CL.nil) rfl (Nat.le_of_ble_eq_true rfl)) (show _ ≤ _ from ((mD (by decide) eu20)).size)).mono (fun v w' h => ⟨(mE (by decide) h.1), by obtain ⟨h1, b, h2, h3, _, h4⟩ := h; exact ⟨b, s1, c1, s2, c2, h2, h3, h4, h23.ext h1, hg23, h27.ext h1, hg27⟩⟩)) (fun I55 v55 => ?_)
     refine mx_any rfl rfl (want rfl) (fun u21 eu21 fu21 => by obtain ⟨b29, s1, c1, s2, c2, rfl, hb29, hB29, h1, hg1, h2, hg2⟩ := fu21 55 _ rfl (show (55 : Nat) ∈ _ from by decide); exact do_append 48 Tryz.underlying22 ti_65 (by decide) rfl (by decide) rfl rfl ((((((tw1L_1.ext Eb3).fr Es1 (fun k hk h => nb1 k hk h)).ext E1).fr Es2 (fun k hk h => tn1L_1_2 k hk h)).ext E2).ext (mC eu21)).out (Src.blk hB29 rfl rfl) (by rw [show TT1_1.length = i by have := congrArg List.length hT; simp at this; omega]; omega) (fun sA cA wA AP => ⟨(mF AP.fr), by obtain ⟨g1, g2⟩ := MTab.snoc (e := ((s1, c1, x.1), (s2, c2, x.2))) ((((((tw1L_1.ext Eb3).fr Es1 (fun k hk h => nb1 k hk h)).ext E1).fr Es2 (fun k hk h => tn1L_1_2 k hk h)).ext E2).ext (mC eu21)) h1 h2 (own_types h1 h2 (by decide)) (fun k hk hb => by have := hTo.lt hb; rcases hk with hk | hk; have := hg1 k hk; omega; have := hg2 k hk; omega) AP; exact ⟨_, sA, cA, by simp, rfl, g1, fun k hk => (g2 k hk).elim .inl (fun h => .inr (h.elim (fun h => h.elim (hg1 k) (hg2 k)) (fun h => Nat.le_trans (mC eu21).size h)))⟩⟩)) (fun I56 v56 => ?_)
     refine mx_nil (fun w9 E3' H2 HS => ?_)
     have E3 := mG E3'
     have F9 := F8.new E3 (fun k h => tg1L_1 k (.inl h))
     have hz3 := E3.size
     have hI56 := (HS.1 56 _ rfl).2
     have hI55 := (HS.1 55 _ rfl).2
     have hI54 := (HS.1 54 _ rfl).2
     have hI53 := (HS.1 53 _ rfl).2
     have hI50 := (HS.1 50 _ rfl).2
     have hX56_55 := HS.2 56 _ 55 _ rfl rfl (show (56 : Nat) ≠ 55 from by decide)
     have hX56_54 := HS.2 56 _ 54 _ rfl rfl (show (56 : Nat) ≠ 54 from by decide)
     have hX56_53 := HS.2 56 _ 53 _ rfl rfl (show (56 : Nat) ≠ 53 from by decide)
     have hX56_50 := HS.2 56 _ 50 _ rfl rfl (show (56 : Nat) ≠ 50 from by decide)
     have hX55_54 := HS.2 55 _ 54 _ rfl rfl (show (55 : Nat) ≠ 54 from by decide)
     have hX55_53 := HS.2 55 _ 53 _ rfl rfl (show (55 : Nat) ≠ 53 from by decide)
     have hX55_50 := HS.2 55 _ 50 _ rfl rfl (show (55 : Nat) ≠ 50 from by decide)
     have hX54_53 := HS.2 54 _ 53 _ rfl rfl (show (54 : Nat) ≠ 53 from by decide)
     have hX54_50 := HS.2 54 _ 50 _ rfl rfl (show (54 : Nat) ≠ 50 from by decide)
     have hX53_50 := HS.2 53 _ 50 _ rfl rfl (show (53 : Nat) ≠ 50 from by decide)
     simp only at hI56
     simp only at hI55
     simp only at hI54
     simp only at hI53
     simp only at hI50
     simp only at hX56_55
     simp only at hX56_54
     simp only at hX56_53
     simp only at hX56_50
     simp only at hX55_54
     simp only at hX55_53
     simp only at hX55_50
     simp only at hX54_53
     simp only at hX54_50
     simp only at hX53_50
     have g56 := H2 56 _ rfl
     obtain ⟨e, sN, cN, rfl, he, hTN, hIN⟩ := g56
     have tg2 : ∀ k, mtb sN (TT1_1 ++ [e]) k → w0.heap.size ≤ k := fun k hk => (hIN k hk).elim (tg1L_1 k) (fun h => by omega)
     have tn2_1 : ∀ k, mtb sN (TT1_1 ++ [e]) k → k ≠ b1 := fun k hk => (hIN k hk).elim (tn1L_1_1 k) (fun h => by have := (BL1_1).lt; omega)
     have tn2_2 : ∀ k, mtb sN (TT1_1 ++ [e]) k → k ≠ b2 := fun k hk => (hIN k hk).elim (tn1L_1_2 k) (fun h => by have := (Bs2).lt; omega)
     have tn2_3 : ∀ k, mtb sN (TT1_1 ++ [e]) k → k ≠ b3 := fun k hk => (hIN k hk).elim (nb1 k) (fun h => by have := (Bs1).lt; omega)
     have g55 := H2 55 _ rfl
     have g54 := H2 54 _ rfl
     have g53 := H2 53 _ rfl
     have g50 := H2 50 _ rfl
     refine lx_value (want rfl) (rn_nilCheck rfl) ?_
     refine lx_value (want rfl) (rn_fieldAddr fa_113_0 rfl) ?_
     refine lx_set (want rfl) sz_22 rfl (t_slice rfl) rfl rfl rfl ((Bs2.ext E2).fr E3 (fun h => tn1L_1_2 _ (.inl h) rfl)) (Nat.le_of_ble_eq_true rfl) ?_
     intro w10 Es3 Bs3
     have F10 := F9.set Es3 (by omega)
     have hzs3 := Es3.size
     refine lx_nil ?_
     refine wk_region ?_
     refine lx_value (want rfl) (rn_add hs1_16 rfl (by omega)) ?_
     refine lx_value (want rfl) (mv_int rfl) ?_
     refine lx_nil ?_
     exact ⟨rfl, ((((((((((((((((((((((((((((((((((((((((((((((((A1.up rfl _).up rfl _).up rfl _).up rfl _).none _).up rfl _).up rfl _).up rfl _).up rfl _).up rfl _).up rfl _).up rfl _).up rfl _).up rfl _).up rfl _).none _).up rfl _).up rfl _).up rfl _).up rfl _).up rfl _).up rfl _).up rfl _).up rfl _).up rfl _).up rfl _).up rfl _).up rfl _).up rfl _).up rfl _).up rfl _).up rfl _).up rfl _).up rfl _).up rfl _).up rfl _).up rfl _).up rfl _).up rfl _).up rfl _).up rfl _).up rfl _).up rfl _).up rfl _).up rfl _).none _).up rfl _).up rfl _), Fr.between F2 F10 (by omega), _, (by omega), i + 1, sN, cN, (TT1_1 ++ [e]), rfl, rfl, (((((((BL1_1.ext Eb3).ne Es1 (by omega)).ext E1).ne Es2 (by omega)).ext E2).fr E3 (fun h => tn1L_1_1 _ (.inl h) rfl)).ne Es3 (by omega)), (by first | exact Bs3 | (rw [hws]; exact Bs3)), (hTN.fr Es3 (fun k hk h => tn2_2 k hk h)), tg2, tn2_1, tn2_2, by have := (List.getElem?_eq_some_iff.1 hx).1; omega, (mtab_step hT hx he), (all_step hq hx hst), (by omega)⟩
    ·
     refine lx_value (want_if (j := 5) (d := 35) (x := false) (y := false) rfl rfl (by decide) rfl) (rn_not rfl) ?_
     refine lx_value (want rfl) (pick_f rfl rfl) ?_
     refine lx_nil ?_
     refine wk_cond_t rfl ?_
     refine wk_seq ?_
     refine wk_region ?_
     refine lx_value (want rfl) (as_pointer rfl) ?_
     refine lx_value (want rfl) (as_int rfl) ?_
     refine lx_nil ?_
     refine wk_ret ?_
     refine retR2 Tryz.results70 (.tmp (t_pointer rfl)) (.tmp (t_int rfl)) F8 ?_
     exact open_st hx (by rw [hst]; exact Bool.false_ne_true)
  ·
   refine lx_nil ?_
   refine wk_seq ?_
   refine wk_cond_f rfl ?_
   refine wk_exit ?_
   refine wk_seq ?_
   refine wk_region ?_
   refine lx_value (want rfl) (mv_pointer (A1.at 4 rfl rfl)) ?_
   refine lx_value (want rfl) (as_pointer rfl) ?_
   refine lx_value (want rfl) (as_int rfl) ?_
   refine lx_nil ?_
   refine wk_ret ?_
   refine retR2 Tryz.results70 (.tmp (t_pointer rfl)) (.tmp (t_int rfl)) F3 ?_
   exact open_ok hT hlt hq h400 hw BL1_2 rfl tw1L_1 tn1L_1_2 (by omega) tg1L_1

end Go.Proofs.YtnhgfmbmfjmonaaGreatDoor

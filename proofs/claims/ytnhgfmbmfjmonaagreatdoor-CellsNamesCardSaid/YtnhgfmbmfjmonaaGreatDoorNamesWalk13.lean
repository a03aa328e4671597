/- What functions compute: pPlay, pDo, pDraw. -/
import Derived.Test.YtnhgfmbmfjmonaaGreatDoorNamesFacts
import Derived.Test.YtnhgfmbmfjmonaaGreatDoorNamesPre
import Derived.Test.YtnhgfmbmfjmonaaGreatDoorNamesWalk11
import Derived.Test.YtnhgfmbmfjmonaaGreatDoorNamesWalk2
import Derived.Test.YtnhgfmbmfjmonaaGreatDoorNamesWalk3
import Derived.Test.YtnhgfmbmfjmonaaGreatDoorNamesWalk5
import Derived.Test.YtnhgfmbmfjmonaaGreatDoorNamesWalk9
set_option maxRecDepth 100000
set_option linter.unusedVariables false
set_option linter.unusedSimpArgs false
namespace Go.Proofs.YtnhgfmbmfjmonaaGreatDoor
open Go Go.RowKit Go.Mix Go.Eng
theorem pPlay_ct (m : Mem) (s : Option Addr) (c : Nat) (G : Nat → Prop) (hB : Bm m) (l : List Op) (sl : Option Addr) (cl : Nat) (H : Nat → Prop) (hkd : ∀ o ∈ l, 0 ≤ o.kind ∧ o.kind < 256) (hlb : l.length ≤ 100000) (w0 : World) (hm : MemS G w0 s m) (hl : OpS H w0 sl l) :
  CT Tryz.prog 22 [.agg #[.slice s m.length c], .slice sl l.length cl] w0 no (fun v w => OutP G w0.heap.size w v (playR m l)) := by
 have hBl := hB.1
 have F0 := Fr.refl no w0
 refine ct_body Tryz.func22 rfl Tryz.ntmps22 (Nat.le_of_ble_eq_true rfl) ?_
 refine wk_seq ?_
 refine wk_region ?_
 refine lx_new (want rfl) (rn_box (t_agg rfl)) ?_
 intro b1 w1 hb1 Eb1 B1 hlb1
 have F1 := F0.ext Eb1
 have hzb1 := Eb1.size
 refine lx_new (want rfl) (rn_alloc ze_24) ?_
 intro b2 w2 hb2 Eb2 B2 hlb2
 have F2 := F1.ext Eb2
 have hzb2 := Eb2.size
 refine lx_value (want rfl) (as_slice rfl) ?_
 refine lx_value (want rfl) (as_slice rfl) ?_
 refine lx_value (want rfl) (as_int rfl) ?_
 refine lx_value (want rfl) (as_int rfl) ?_
 refine lx_nil ?_
 refine wk_seq ?_
 refine wk_region ?_
 refine lx_value (want rfl) (rn_loadBlk ag_24 sz_24 rfl (B1.ext Eb2) rfl rfl) ?_
 refine lx_call (want rfl) (ent_func cf_70 (argsC (t_agg rfl) args0)) (CT.mono (open_ct m s c _ hB w2 (hm.fr (st_stab _) F2 (fun _ _ h => h))) (fun _ _ h => h) (fun v w2 _ h => h.all)) ?_
 rintro _ w3 E1 ⟨ad, rfl, hop⟩
 have F3 := F2.ext E1
 have hz1 := E1.size
 refine lx_value (want rfl) (mv_tuple rfl) ?_
 refine lx_value (want rfl) (rn_extract rfl rfl) ?_
 refine lx_value (want rfl) (rn_extract rfl rfl) ?_
 refine lx_value (want rfl) (as_pointer rfl) ?_
 refine lx_value (want rfl) (as_int rfl) ?_
 refine lx_nil ?_
 refine wk_seq ?_
 refine wk_seq ?_
 refine wk_region ?_
 refine lx_value (want rfl) (mv_int rfl) ?_
 refine lx_value (want rfl) (rn_neq rfl rfl) ?_
 refine lx_dec (fun he => ?_) (fun he => ?_)
 ·
  refine lx_nil ?_
  refine wk_cond_t rfl ?_
  refine wk_seq ?_
  refine wk_region ?_
  refine lx_value (want rfl) (rn_loadBlk ag_24 sz_24 rfl (B2.ext E1) rfl rfl) ?_
  refine lx_value (want rfl) (mv_int rfl) ?_
  refine lx_set (want rfl) sz_24 rfl (t_agg rfl) rfl rfl rfl (B2.ext E1) (Nat.le_of_ble_eq_true rfl) ?_
  intro w4 Es1 Bs1
  have F4 := F3.set Es1 (by omega)
  have hzs1 := Es1.size
  refine lx_value (want rfl) (as_slice rfl) ?_
  refine lx_value (want rfl) (as_slice rfl) ?_
  refine lx_value (want rfl) (as_int rfl) ?_
  refine lx_value (want rfl) (as_int rfl) ?_
  refine lx_nil ?_
  refine wk_ret ?_
  refine retR5 Tryz.results22 (.cell rfl (run_loadVar_blk ag_24 sz_24 Bs1 rfl rfl)) (.tmp (t_slice rfl)) (.tmp (t_slice rfl)) (.tmp (t_int rfl)) (.tmp (t_int rfl)) F4 ?_
  exact outP_chk he
 ·
  obtain ⟨b, Z, rfl, hM, hZ⟩ := hop he
  have hok := chk_0 he
  have hZinc := fun (k : Nat) (hk : zz zn Z k) => (Or.inr (hZ k hk) : zz none (fun _ => False) k ∨ _)
  have tg2 : ∀ k, zz zn Z k → w0.heap.size ≤ k := fun k hk => (hZinc k hk).elim ((fun _ h => zz_nil h) k) (fun h => by omega)
  have tn2_1 : ∀ k, zz zn Z k → k ≠ b1 := fun k hk => (hZinc k hk).elim ((fun _ h => zz_nil h) k) (fun h => by have := (B1).lt; omega)
  have tn2_2 : ∀ k, zz zn Z k → k ≠ b2 := fun k hk => (hZinc k hk).elim ((fun _ h => zz_nil h) k) (fun h => by have := (B2).lt; omega)
  have ts2_4 : ∀ k, zz zn Z k → ob none k → False := fun k hk h2 => (hZinc k hk).elim (fun h => (fun _ h _ => zz_nil h) k h h2) (fun h => by have := ((OwnS.nil w2 36 2)).lt h2; omega)
  refine lx_nil ?_
  refine wk_cond_f rfl ?_
  refine wk_skip ?_
  refine wk_seq ?_
  refine wk_seq ?_
  refine wk_region ?_
  refine lx_value (want rfl) (mv_slice rfl) ?_
  refine lx_value (want rfl) (rn_len Tryz.underlying25 rfl) ?_
  refine lx_value (want rfl) (mv_int rfl) ?_
  refine lx_nil ?_
  refine wk_block ?_
  refine wk_loopA [5, 8, 11, 12, 24, 25, 26, 27, 28, 29, 30, 31, 32, 33, 34, 35, 36, 37, 38, 39, 40] (fun j => no j ∨ w0.heap.size ≤ j) (fun nM ρ w => ∃ (i : Nat) (mM : Mem) (gM : List Vl) (tM : List Tl) (so1_4 : Option Addr) (co1_4 : Nat) (TT1_1 : Nat → Prop), nM = l.length - i ∧ ρ 24 = .int .i64 i ∧ ρ 8 = .int .i64 0 ∧ Blk w b1 (cellsOf B1) 24 ∧ Blk w b2 (cellsOf B2) 24 ∧ ρ 5 = .slice so1_4 (gM.length) co1_4 ∧ OwnS w 36 2 so1_4 (gM.length) co1_4 (gM.flatMap vlC) ∧ (∀ k, ob so1_4 k → w0.heap.size ≤ k) ∧ (∀ k, ob so1_4 k → k ≠ b1) ∧ (∀ k, ob so1_4 k → k ≠ b2) ∧ MO TT1_1 w b mM tM ∧ (∀ k, zz zn TT1_1 k → w0.heap.size ≤ k) ∧ (∀ k, zz zn TT1_1 k → k ≠ b1) ∧ (∀ k, zz zn TT1_1 k → k ≠ b2) ∧ (∀ k, zz zn TT1_1 k → ob so1_4 k → False) ∧ (i ≤ l.length) ∧ (okM mM = true) ∧ (gM.length = i) ∧ (tM.length ≤ 6000 * i) ∧ (playF mM (l.drop i) gM tM = playF m l [] [])) _ ⟨0, m, [], [], none, 0, Z, rfl, rfl, ((show _ = Value.int .i64 (chkE m) from rfl).trans (congrArg (Value.int .i64) (Decidable.not_not.1 he))), ((B1.ext Eb2).ext E1), (B2.ext E1), rfl, ((OwnS.nil w2 36 2).ext E1), (fun _ h => ob_none h), (fun _ h => ob_none h), (fun _ h => ob_none h), hM, tg2, tn2_1, tn2_2, ts2_4, by omega, hok, rfl, Nat.zero_le _, by rw [List.drop_zero]⟩ ?_
  rintro n1 ρ1 w4 A1 EL1 ⟨i, mM, gM, tM, so1_4, co1_4, TT1_1, rfl, hs1_24, hs1_8, BL1_1, BL1_2, ho1_4, ow1L_4, ge1L_4, ne1L_4_1, ne1L_4_2, tw1L_1, tg1L_1, tn1L_1_1, tn1L_1_2, ts1L_1_4, hi, hokM, hgl, htl, hpl⟩
  have F5 := F3.wide EL1
  have hzL1 := EL1.size
  refine wk_seq ?_
  refine wk_region ?_
  refine lx_value (want rfl) (rn_lss hs1_24 (A1.at 23 rfl rfl)) ?_
  refine lx_dec (fun hlt => ?_) (fun hlt => ?_)
  ·
   obtain ⟨o, ho⟩ := getx hlt
   obtain ⟨bo, oo, rfl, _, hco⟩ := hl i o ho
   refine lx_nil ?_
   refine wk_seq ?_
   refine wk_cond_t rfl ?_
   refine wk_skip ?_
   refine wk_seq ?_
   refine wk_block ?_
   refine wk_seq ?_
   refine wk_region ?_
   refine lx_value (want rfl) (rn_index _ Tryz.underlying25 sz_38 (A1.at 22 rfl rfl) hs1_24 rfl (by omega)) ?_
   refine lx_value (want rfl) (rn_loadN (vs := opC o) ag_38 sz_38 rfl rfl (fun j u hj => (F5.cell (fun h => h) (hco j u hj)))) ?_
   refine lx_new (want rfl) (rn_alloc ze_38) ?_
   intro b3 w5 hb3 Eb3 B3 hlb3
   have F6 := F5.ext Eb3
   have hzb3 := Eb3.size
   have nb1 : ∀ k, ob so1_4 k → k ≠ b3 := fun k hk => by have := (ow1L_4).lt hk; omega
   have nb2 : ∀ k, zz zn TT1_1 k → k ≠ b3 := fun k hk => by have := (tw1L_1).lt hk; omega
   refine lx_set (want rfl) sz_38 rfl (t_agg rfl) rfl rfl rfl B3 (Nat.le_of_ble_eq_true rfl) ?_
   intro w6 Es2 Bs2
   have F7 := F6.set Es2 (by omega)
   have hzs2 := Es2.size
   refine lx_nil ?_
   refine wk_seq ?_
   refine wk_region ?_
   refine lx_new (want rfl) (rn_alloc ze_36) ?_
   intro b4 w7 hb4 Eb4 B4 hlb4
   have F8 := F7.ext Eb4
   have hzb4 := Eb4.size
   have nb3 : ∀ k, ob so1_4 k → k ≠ b4 := fun k hk => by have := (ow1L_4).lt hk; omega
   have nb4 : ∀ k, zz zn TT1_1 k → k ≠ b4 := fun k hk => by have := (tw1L_1).lt hk; omega
   refine lx_nil ?_
   refine wk_seq ?_
   refine wk_seq ?_
   refine wk_region ?_
   refine lx_value (want rfl) (mv_pointer (A1.at 9 rfl rfl)) ?_
   refine lx_value (want rfl) (rn_loadBlk ag_38 sz_38 rfl (Bs2.ext Eb4) rfl rfl) ?_
   refine lx_call (want rfl) (ent_func cf_71 (argsC (t_pointer rfl) (argsC (t_agg rfl) args0))) (pdo_ct TT1_1 b mM tM hokM (by omega) o (hkd o (List.mem_of_getElem? ho)) w7 (((tw1L_1.ext Eb3).fr Es2 (fun k hk h => nb2 k hk h)).ext Eb4)) ?_
   rintro _ w8 E2 ⟨rfl, Z2, hM2, hi2⟩
   have F9 := F8.new E2 (fun k h => tg1L_1 k h)
   have hz2 := E2.size
   have tg3 : ∀ k, zz zn Z2 k → w0.heap.size ≤ k := fun k hk => (hi2 k hk).elim (tg1L_1 k) (fun h => by omega)
   have tn3_1 : ∀ k, zz zn Z2 k → k ≠ b1 := fun k hk => (hi2 k hk).elim (tn1L_1_1 k) (fun h => by have := (BL1_1).lt; omega)
   have tn3_2 : ∀ k, zz zn Z2 k → k ≠ b2 := fun k hk => (hi2 k hk).elim (tn1L_1_2 k) (fun h => by have := (BL1_2).lt; omega)
   have tn3_3 : ∀ k, zz zn Z2 k → k ≠ b3 := fun k hk => (hi2 k hk).elim (nb2 k) (fun h => by have := (Bs2).lt; omega)
   have tn3_4 : ∀ k, zz zn Z2 k → k ≠ b4 := fun k hk => (hi2 k hk).elim (nb4 k) (fun h => by have := (B4).lt; omega)
   have ts3_4 : ∀ k, zz zn Z2 k → ob so1_4 k → False := fun k hk h2 => (hi2 k hk).elim (fun h => ts1L_1_4 k h h2) (fun h => by have := (ow1L_4).lt h2; omega)
   refine lx_value (want rfl) (mv_tuple rfl) ?_
   refine lx_value (want rfl) (rn_extract rfl rfl) ?_
   refine lx_value (want rfl) (rn_extract rfl rfl) ?_
   refine lx_set (want rfl) sz_36 rfl (t_agg rfl) rfl rfl rfl (B4.fr E2 (fun h => nb4 _ h rfl)) (Nat.le_of_ble_eq_true rfl) ?_
   intro w9 Es3 Bs3
   have F10 := F9.set Es3 (by omega)
   have hzs3 := Es3.size
   refine lx_value (want rfl) (as_int rfl) ?_
   refine lx_nil ?_
   refine wk_seq ?_
   refine wk_region ?_
   refine lx_value (want rfl) (mv_int rfl) ?_
   refine lx_value (want rfl) (rn_neq rfl rfl) ?_
   refine lx_dec (fun herr => ?_) (fun herr => ?_)
   ·
    refine lx_nil ?_
    refine wk_cond_t rfl ?_
    refine wk_exit ?_
    refine wk_seq ?_
    obtain ⟨sN, cN, TN, stN, ctN, hTN, hBN, hTmN, hON, hq1, hq2, hq3, hzb, hzt, hzo, _⟩ := (hM2.fr Es3 (fun k hk h => tn3_4 k hk h))
    have hTlN := congrArg List.length hTN
    rw [List.length_map] at hTlN
    have hgb : w0.heap.size ≤ b := tg3 b hzb
    have hgt : ∀ k, mtb sN TN k → w0.heap.size ≤ k := fun k h => tg3 k (hzt k h)
    have hgo : ∀ k, ob stN k → w0.heap.size ≤ k := fun k h => tg3 k (hzo k h)
    have hnb1 : b ≠ b1 := tn3_1 b hzb
    have hnt1 : ∀ k, mtb sN TN k → k ≠ b1 := fun k h => tn3_1 k (hzt k h)
    have hno1 : ∀ k, ob stN k → k ≠ b1 := fun k h => tn3_1 k (hzo k h)
    have hnb2 : b ≠ b2 := tn3_2 b hzb
    have hnt2 : ∀ k, mtb sN TN k → k ≠ b2 := fun k h => tn3_2 k (hzt k h)
    have hno2 : ∀ k, ob stN k → k ≠ b2 := fun k h => tn3_2 k (hzo k h)
    have hnb3 : b ≠ b3 := tn3_3 b hzb
    have hnt3 : ∀ k, mtb sN TN k → k ≠ b3 := fun k h => tn3_3 k (hzt k h)
    have hno3 : ∀ k, ob stN k → k ≠ b3 := fun k h => tn3_3 k (hzo k h)
    have hnb4 : b ≠ b4 := tn3_4 b hzb
    have hnt4 : ∀ k, mtb sN TN k → k ≠ b4 := fun k h => tn3_4 k (hzt k h)
    have hno4 : ∀ k, ob stN k → k ≠ b4 := fun k h => tn3_4 k (hzo k h)
    have hst4 : ∀ k, mtb sN TN k → ob so1_4 k → False := fun k h => ts3_4 k (hzt k h)
    have hso4 : ∀ k, ob stN k → ob so1_4 k → False := fun k h => ts3_4 k (hzo k h)
    have hnb_4 : ∀ k, ob so1_4 k → k ≠ b := fun k h e => ts3_4 k (by subst e; exact hzb) h
    have hlbN := hBN.lt
    refine wk_mixK 14 4 (((((BL1_2.ext Eb3).ne Es2 (by omega)).ext Eb4).fr E2 (fun h => tn1L_1_2 _ h rfl)).ne Es3 (by omega)) (fun kS => match kS with | 1 => .val (.agg #[.slice sN TN.length cN]) | 10 => .sto 4 42 (fun J u w => J.1 < J.2 ∧ Blk w J.1 u.cells.toList 24) | _ => .none) (by kernel_rfl) (by kernel_rfl) (by intro kS G hk; (try dsimp only at hk); (split at hk) <;> first | (cases hk; done) | (injection hk with hk; subst hk; exact ⟨by intro j hkj I v w w' hR hG; first | exact hG, fun _ I v w w' hR hG => by first | exact hG⟩)) (by intro kS s y G hk; (try dsimp only at hk); (split at hk) <;> first | (cases hk; done) | (injection hk with hk1 hk2 hk3; subst hk1; subst hk2; subst hk3; exact ⟨by kernel_rfl, by intro j hkj I v w w' hR hG; exact ⟨hG.1, hG.2.ext hR⟩, fun I v w w' hR hG => ⟨hG.1, hG.2.fr hR (fun h => h.2 ⟨Nat.le_refl _, hG.1⟩)⟩⟩)) ?_
    simp only [List.take_succ_cons, List.take_zero, List.take_nil, List.drop_succ_cons, List.drop_zero, List.drop_nil]
    refine mx_calm rfl (want rfl) (fun u1 eu1 fu1 => mv_pointer (A1.at 9 rfl rfl)) ?_
    refine mx_val rfl (want rfl) (fun u2 eu2 fu2 => do_call (ent_func cf_72 (argsC (t_pointer rfl) args0)) (pout_ct b sN TN.length cN _ stN _ ctN u2 (hBN.fr (mG eu2) (show ¬ (b = b2) by omega))) (fun _ _ E h => ⟨E, h⟩)) ?_
    refine mx_calm rfl (want rfl) (fun u3 eu3 fu3 => mv_slice ho1_4) ?_
    refine mx_calm rfl (want rfl) (fun u4 eu4 fu4 => mv_pointer (A1.at 9 rfl rfl)) ?_
    refine mx_calm rfl (want rfl) (fun u5 eu5 fu5 => rn_nilCheck rfl) ?_
    refine mx_calm rfl (want rfl) (fun u6 eu6 fu6 => rn_fieldAddr fa_113_2 rfl) ?_
    refine mx_calm rfl (want rfl) (fun u7 eu7 fu7 => rn_load1Blk ag_31 rfl (hBN.fr (mG eu7) (show ¬ (b = b2) by omega)) rfl) ?_
    refine mx_calm rfl (want rfl) (fun u8 eu8 fu8 => mv_slice ho1_4) ?_
    refine mx_calm rfl (want rfl) (fun u9 eu9 fu9 => rn_len Tryz.underlying30 rfl) ?_
    refine mx_calm rfl (want rfl) (fun u10 eu10 fu10 => mv_int rfl) ?_
    refine mx_sto rfl rfl rfl rfl (want rfl) (fun u11 eu11 fu11 _ => by obtain hB4 := fu11 4 _ rfl (show (4 : Nat) ∈ _ from by decide); exact (do_sto sz_24 (by exact (A1.at 4 rfl rfl)) rfl rfl rfl rfl hB4 rfl ⟨Nat.le_refl _, (Nat.lt_succ_self _)⟩).mono (fun v w' h => ⟨h.1, h.2.1, (Nat.lt_succ_self _), h.2.2⟩)) ?_
    refine mx_calm rfl (want rfl) (fun u12 eu12 fu12 => as_slice rfl) ?_
    refine mx_calm rfl (want rfl) (fun u13 eu13 fu13 => as_slice rfl) ?_
    refine mx_calm rfl (want rfl) (fun u14 eu14 fu14 => as_int rfl) ?_
    refine mx_nil (fun w10 E3' H1 HS => ?_)
    have E3 := mG E3'
    have F11 := F10.set E3 (by omega)
    have hz3 := E3.size
    obtain ⟨_, _, hBK10⟩ := H1 4 _ rfl
    refine lx_value (want rfl) (as_int rfl) ?_
    refine lx_nil ?_
    refine wk_ret ?_
    refine retR5 Tryz.results22 (.cell (A1.at 4 rfl rfl) (run_loadVar_blk ag_24 sz_24 hBK10 rfl rfl)) (.tmp (t_slice rfl)) (.tmp (t_slice rfl)) (.tmp (t_int rfl)) (.tmp (t_int rfl)) F11 ?_
    exact outP_prog hok (by rw [← hpl]; exact playF_err ho herr) (hTN.trans (aft_e herr)) (hTmN.fr E3 (fun k hk h => hnt2 k hk h)) hgt (own_vl ((((((ow1L_4.ext Eb3).ne Es2 (fun h => nb1 _ h rfl)).ext Eb4).fr E2 (fun k h1 h => ts1L_1_4 k h h1)).ne Es3 (fun h => nb3 _ h rfl)).ne E3 (fun h => ne1L_4_2 _ h rfl)) ge1L_4) (by rw [do_told herr, List.append_nil]) (by have h := own_tl (hON.ne E3 (fun h => hno2 _ h rfl)) hgo; rw [do_told herr, List.append_nil] at h; exact h)
   ·
    have herr0 : (doR mM o).1 = 0 := Decidable.not_not.1 herr
    have hokD := (do_ok hokM herr0).1
    have htd := told_le (o := o) hokM
    have hM3 := (hM2.fr Es3 (fun k hk h => tn3_4 k hk h))
    rw [aft_0 herr0] at hM3
    refine lx_nil ?_
    refine wk_cond_f rfl ?_
    refine wk_skip ?_
    refine wk_region ?_
    refine lx_value (want rfl) (mv_slice ho1_4) ?_
    refine lx_value (want rfl) (rn_loadBlk ag_36 sz_36 rfl Bs3 rfl rfl) ?_
    refine lx_newS (want rfl) (rn_bslice (xs := [.tmp 37]) Tryz.underlying30 sz_36 ze_36 rfl (argsC (t_agg rfl) args0) (CL.cons rfl rfl CL.nil) rfl (Nat.le_of_ble_eq_true rfl)) ?_
    intro b5 w10 hb5 Eb5 B5 hlb5
    have F12 := F10.ext Eb5
    have hzb5 := Eb5.size
    have nb5 : ∀ k, ob so1_4 k → k ≠ b5 := fun k hk => by have := (ow1L_4).lt hk; omega
    have nb6 : ∀ k, zz zn Z2 k → k ≠ b5 := fun k hk => by have := (hM3).lt hk; omega
    refine lx_append 16 (want rfl) Tryz.underlying30 ti_36 (by decide) rfl (by decide) rfl rfl ((((((ow1L_4.ext Eb3).ne Es2 (fun h => nb1 _ h rfl)).ext Eb4).fr E2 (fun k h1 h => ts1L_1_4 k h h1)).ne Es3 (fun h => nb3 _ h rfl)).ext Eb5) ((Src.blk B5 rfl rfl)) (by omega) ?_
    intro sq2 cq2 w11 AP2
    have EA2 := AP2.fr
    have ow2 := AP2.own
    have ge2 : ∀ k, ob sq2 k → w0.heap.size ≤ k := fun k hk => (AP2.blk k hk).elim (ge1L_4 k) (fun h => (Nat.le_trans F12.size h))
    have ne2_1 : ∀ k, ob sq2 k → k ≠ b1 := fun k hk => (AP2.blk k hk).elim (ne1L_4_1 k) (fun h => by have := (((((((BL1_1.ext Eb3).ne Es2 (by omega)).ext Eb4).fr E2 (fun h => tn1L_1_1 _ h rfl)).ne Es3 (by omega)).ext Eb5)).lt; omega)
    have ne2_2 : ∀ k, ob sq2 k → k ≠ b2 := fun k hk => (AP2.blk k hk).elim (ne1L_4_2 k) (fun h => by have := (((((((BL1_2.ext Eb3).ne Es2 (by omega)).ext Eb4).fr E2 (fun h => tn1L_1_2 _ h rfl)).ne Es3 (by omega)).ext Eb5)).lt; omega)
    have ne2_3 : ∀ k, ob sq2 k → k ≠ b3 := fun k hk => (AP2.blk k hk).elim (nb1 k) (fun h => by have := (((((Bs2.ext Eb4).fr E2 (fun h => nb2 _ h rfl)).ne Es3 (by omega)).ext Eb5)).lt; omega)
    have ne2_4 : ∀ k, ob sq2 k → k ≠ b4 := fun k hk => (AP2.blk k hk).elim (nb3 k) (fun h => by have := ((Bs3.ext Eb5)).lt; omega)
    have ne2_5 : ∀ k, ob sq2 k → k ≠ b5 := fun k hk => (AP2.blk k hk).elim (nb5 k) (fun h => by have := (B5).lt; omega)
    have F13 := F12.new EA2 ge1L_4
    have hzA2 := EA2.size
    have BA2_1 := ((((((BL1_1.ext Eb3).ne Es2 (by omega)).ext Eb4).fr E2 (fun h => tn1L_1_1 _ h rfl)).ne Es3 (by omega)).ext Eb5).fr EA2 (fun h => ne1L_4_1 _ h rfl)
    have BA2_2 := ((((((BL1_2.ext Eb3).ne Es2 (by omega)).ext Eb4).fr E2 (fun h => tn1L_1_2 _ h rfl)).ne Es3 (by omega)).ext Eb5).fr EA2 (fun h => ne1L_4_2 _ h rfl)
    have BA2_3 := ((((Bs2.ext Eb4).fr E2 (fun h => nb2 _ h rfl)).ne Es3 (by omega)).ext Eb5).fr EA2 (fun h => nb1 _ h rfl)
    have BA2_4 := (Bs3.ext Eb5).fr EA2 (fun h => nb3 _ h rfl)
    have BA2_5 := B5.fr EA2 (fun h => nb5 _ h rfl)
    have sa2_1 : ∀ k, zz zn Z2 k → ob sq2 k → False := fun k hk h2 => (AP2.blk k h2).elim (fun h => ts3_4 k hk h) (fun h => by have := ((hM3.ext Eb5)).lt hk; omega)
    refine lx_value (want rfl) (as_slice rfl) ?_
    refine lx_nil ?_
    refine wk_region ?_
    refine lx_value (want rfl) (rn_add hs1_24 rfl (by omega)) ?_
    refine lx_value (want rfl) (mv_int rfl) ?_
    refine lx_nil ?_
    exact ⟨rfl, (((((((((((((((((((((((A1.up rfl _).up rfl _).up rfl _).up rfl _).none _).up rfl _).up rfl _).up rfl _).up rfl _).up rfl _).up rfl _).up rfl _).none _).up rfl _).up rfl _).up rfl _).up rfl _).up rfl _).up rfl _).up rfl _).up rfl _).up rfl _).up rfl _), Fr.between F3 F13 (by omega), _, (by omega), i + 1, (doR mM o).2.1, (gM ++ [(doR mM o).2.2.1]), (tM ++ (doR mM o).2.2.2), sq2, cq2, Z2, rfl, rfl, ((show _ = Value.int .i64 (doR mM o).1 from rfl).trans (congrArg (Value.int .i64) herr0)), BA2_1, BA2_2, (by rw [List.length_append]; exact rfl), (own_more ow2 rfl), ge2, ne2_1, ne2_2, ((hM3.ext Eb5).fr EA2 (fun k hk h => ts3_4 k hk h)), tg3, tn3_1, tn3_2, sa2_1, by omega, hokD, by rw [List.length_append, hgl]; rfl, by rw [List.length_append]; omega, (by rw [← hpl, playF_on ho herr0])⟩
  ·
   refine lx_nil ?_
   refine wk_seq ?_
   refine wk_cond_f rfl ?_
   refine wk_exit ?_
   refine wk_seq ?_
   obtain ⟨sN, cN, TN, stN, ctN, hTN, hBN, hTmN, hON, hq1, hq2, hq3, hzb, hzt, hzo, _⟩ := tw1L_1
   have hTlN := congrArg List.length hTN
   rw [List.length_map] at hTlN
   have hgb : w0.heap.size ≤ b := tg1L_1 b hzb
   have hgt : ∀ k, mtb sN TN k → w0.heap.size ≤ k := fun k h => tg1L_1 k (hzt k h)
   have hgo : ∀ k, ob stN k → w0.heap.size ≤ k := fun k h => tg1L_1 k (hzo k h)
   have hnb1 : b ≠ b1 := tn1L_1_1 b hzb
   have hnt1 : ∀ k, mtb sN TN k → k ≠ b1 := fun k h => tn1L_1_1 k (hzt k h)
   have hno1 : ∀ k, ob stN k → k ≠ b1 := fun k h => tn1L_1_1 k (hzo k h)
   have hnb2 : b ≠ b2 := tn1L_1_2 b hzb
   have hnt2 : ∀ k, mtb sN TN k → k ≠ b2 := fun k h => tn1L_1_2 k (hzt k h)
   have hno2 : ∀ k, ob stN k → k ≠ b2 := fun k h => tn1L_1_2 k (hzo k h)
   have hst4 : ∀ k, mtb sN TN k → ob so1_4 k → False := fun k h => ts1L_1_4 k (hzt k h)
   have hso4 : ∀ k, ob stN k → ob so1_4 k → False := fun k h => ts1L_1_4 k (hzo k h)
   have hnb_4 : ∀ k, ob so1_4 k → k ≠ b := fun k h e => ts1L_1_4 k (by subst e; exact hzb) h
   have hlbN := hBN.lt
   refine wk_mixK 14 4 BL1_2 (fun kS => match kS with | 1 => .val (.agg #[.slice sN TN.length cN]) | 10 => .sto 4 42 (fun J u w => J.1 < J.2 ∧ Blk w J.1 u.cells.toList 24) | _ => .none) (by kernel_rfl) (by kernel_rfl) (by intro kS G hk; (try dsimp only at hk); (split at hk) <;> first | (cases hk; done) | (injection hk with hk; subst hk; exact ⟨by intro j hkj I v w w' hR hG; first | exact hG, fun _ I v w w' hR hG => by first | exact hG⟩)) (by intro kS s y G hk; (try dsimp only at hk); (split at hk) <;> first | (cases hk; done) | (injection hk with hk1 hk2 hk3; subst hk1; subst hk2; subst hk3; exact ⟨by kernel_rfl, by intro j hkj I v w w' hR hG; exact ⟨hG.1, hG.2.ext hR⟩, fun I v w w' hR hG => ⟨hG.1, hG.2.fr hR (fun h => h.2 ⟨Nat.le_refl _, hG.1⟩)⟩⟩)) ?_
   simp only [List.take_succ_cons, List.take_zero, List.take_nil, List.drop_succ_cons, List.drop_zero, List.drop_nil]
   refine mx_calm rfl (want rfl) (fun u15 eu15 fu15 => mv_pointer (A1.at 9 rfl rfl)) ?_
   refine mx_val rfl (want rfl) (fun u16 eu16 fu16 => do_call (ent_func cf_72 (argsC (t_pointer rfl) args0)) (pout_ct b sN TN.length cN _ stN _ ctN u16 (hBN.fr (mG eu16) (show ¬ (b = b2) by omega))) (fun _ _ E h => ⟨E, h⟩)) ?_
   refine mx_calm rfl (want rfl) (fun u17 eu17 fu17 => mv_slice ho1_4) ?_
   refine mx_calm rfl (want rfl) (fun u18 eu18 fu18 => mv_pointer (A1.at 9 rfl rfl)) ?_
   refine mx_calm rfl (want rfl) (fun u19 eu19 fu19 => rn_nilCheck rfl) ?_
   refine mx_calm rfl (want rfl) (fun u20 eu20 fu20 => rn_fieldAddr fa_113_2 rfl) ?_
   refine mx_calm rfl (want rfl) (fun u21 eu21 fu21 => rn_load1Blk ag_31 rfl (hBN.fr (mG eu21) (show ¬ (b = b2) by omega)) rfl) ?_
   refine mx_calm rfl (want rfl) (fun u22 eu22 fu22 => mv_slice ho1_4) ?_
   refine mx_calm rfl (want rfl) (fun u23 eu23 fu23 => rn_len Tryz.underlying30 rfl) ?_
   refine mx_calm rfl (want rfl) (fun u24 eu24 fu24 => mv_int hs1_8) ?_
   refine mx_sto rfl rfl rfl rfl (want rfl) (fun u25 eu25 fu25 _ => by obtain hB4 := fu25 4 _ rfl (show (4 : Nat) ∈ _ from by decide); exact (do_sto sz_24 (by exact (A1.at 4 rfl rfl)) rfl rfl rfl rfl hB4 rfl ⟨Nat.le_refl _, (Nat.lt_succ_self _)⟩).mono (fun v w' h => ⟨h.1, h.2.1, (Nat.lt_succ_self _), h.2.2⟩)) ?_
   refine mx_calm rfl (want rfl) (fun u26 eu26 fu26 => as_slice rfl) ?_
   refine mx_calm rfl (want rfl) (fun u27 eu27 fu27 => as_slice rfl) ?_
   refine mx_calm rfl (want rfl) (fun u28 eu28 fu28 => as_int rfl) ?_
   refine mx_nil (fun w5 E4' H2 HS => ?_)
   have E4 := mG E4'
   have F14 := F5.set E4 (by omega)
   have hz4 := E4.size
   obtain ⟨_, _, hBK5⟩ := H2 4 _ rfl
   refine lx_value (want rfl) (as_int rfl) ?_
   refine lx_nil ?_
   refine wk_ret ?_
   refine retR5 Tryz.results22 (.cell (A1.at 4 rfl rfl) (run_loadVar_blk ag_24 sz_24 hBK5 rfl rfl)) (.tmp (t_slice rfl)) (.tmp (t_slice rfl)) (.tmp (t_int rfl)) (.tmp (t_int rfl)) F14 ?_
   exact outP_prog hok (by rw [← hpl]; exact playF_end hlt) hTN (hTmN.fr E4 (fun k hk h => hnt2 k hk h)) hgt (own_vl (ow1L_4.ne E4 (fun h => ne1L_4_2 _ h rfl)) ge1L_4) rfl (own_tl (hON.ne E4 (fun h => hno2 _ h rfl)) hgo)

theorem pDo_ct (m : Mem) (s : Option Addr) (c : Nat) (G : Nat → Prop) (hB : Bm m) (o : Op) (hk : 0 ≤ o.kind ∧ o.kind < 256) (w0 : World) (hm : MemS G w0 s m) :
  CT Tryz.prog 43 [.agg #[.slice s m.length c], .agg #[.int .u8 o.kind, .int .u8 o.v.1, .int .i64 o.v.2, .int .u8 o.ix.1, .int .i64 o.ix.2, .int .u8 o.val.1, .int .i64 o.val.2, .int .i64 o.rd]] w0 no (fun v w => OutD w0.heap.size w v (DoR m o)) := by
 have F0 := Fr.refl no w0
 refine ct_body Tryz.func43 rfl Tryz.ntmps43 (Nat.le_of_ble_eq_true rfl) ?_
 refine wk_seq ?_
 refine wk_region ?_
 refine lx_new (want rfl) (rn_box (t_agg rfl)) ?_
 intro b1 w1 hb1 Eb1 B1 hlb1
 have F1 := F0.ext Eb1
 have hzb1 := Eb1.size
 refine lx_new (want rfl) (rn_box (t_agg rfl)) ?_
 intro b2 w2 hb2 Eb2 B2 hlb2
 have F2 := F1.ext Eb2
 have hzb2 := Eb2.size
 refine lx_new (want rfl) (rn_alloc ze_24) ?_
 intro b3 w3 hb3 Eb3 B3 hlb3
 have F3 := F2.ext Eb3
 have hzb3 := Eb3.size
 refine lx_new (want rfl) (rn_alloc ze_36) ?_
 intro b4 w4 hb4 Eb4 B4 hlb4
 have F4 := F3.ext Eb4
 have hzb4 := Eb4.size
 refine lx_value (want rfl) (as_slice rfl) ?_
 refine lx_value (want rfl) (as_int rfl) ?_
 refine lx_nil ?_
 refine wk_seq ?_
 refine wk_region ?_
 refine lx_value (want rfl) (rn_loadBlk ag_24 sz_24 rfl (((B1.ext Eb2).ext Eb3).ext Eb4) rfl rfl) ?_
 refine lx_call (want rfl) (ent_func cf_70 (argsC (t_agg rfl) args0)) (CT.mono (open_ct m s c _ hB w4 (hm.fr (st_stab _) F4 (fun _ _ h => h))) (fun _ _ h => h) (fun v w2 _ h => h.all)) ?_
 rintro _ w5 E1 ⟨ad, rfl, hop⟩
 have F5 := F4.ext E1
 have hz1 := E1.size
 refine lx_value (want rfl) (mv_tuple rfl) ?_
 refine lx_value (want rfl) (rn_extract rfl rfl) ?_
 refine lx_value (want rfl) (rn_extract rfl rfl) ?_
 refine lx_value (want rfl) (as_pointer rfl) ?_
 refine lx_value (want rfl) (as_int rfl) ?_
 refine lx_nil ?_
 refine wk_seq ?_
 refine wk_seq ?_
 refine wk_region ?_
 refine lx_value (want rfl) (mv_int rfl) ?_
 refine lx_value (want rfl) (rn_neq rfl rfl) ?_
 refine lx_dec (fun he => ?_) (fun he => ?_)
 ·
  refine lx_nil ?_
  refine wk_cond_t rfl ?_
  refine wk_seq ?_
  refine wk_region ?_
  refine lx_value (want rfl) (rn_build0  (fun w => bd_24  w)) ?_
  refine lx_value (want rfl) (rn_build0  (fun w => bd_36  w)) ?_
  refine lx_value (want rfl) (mv_int rfl) ?_
  refine lx_set (want rfl) sz_24 rfl (t_agg rfl) rfl rfl rfl ((B3.ext Eb4).ext E1) (Nat.le_of_ble_eq_true rfl) ?_
  intro w6 Es1 Bs1
  have F6 := F5.set Es1 (by omega)
  have hzs1 := Es1.size
  refine lx_set (want rfl) sz_36 rfl (t_agg rfl) rfl rfl rfl ((B4.ext E1).ne Es1 (by omega)) (Nat.le_of_ble_eq_true rfl) ?_
  intro w7 Es2 Bs2
  have F7 := F6.set Es2 (by omega)
  have hzs2 := Es2.size
  refine lx_value (want rfl) (as_slice rfl) ?_
  refine lx_value (want rfl) (as_int rfl) ?_
  refine lx_nil ?_
  refine wk_ret ?_
  refine retR4 Tryz.results43 (.cell rfl (run_loadVar_blk ag_24 sz_24 (Bs1.ne Es2 (by omega)) rfl rfl)) (.cell rfl (run_loadVar_blk ag_36 sz_36 Bs2 rfl rfl)) (.tmp (t_slice rfl)) (.tmp (t_int rfl)) F7 ?_
  exact outD_chk he
 ·
  obtain ⟨b, Z, rfl, hM, hZ⟩ := hop he
  have hok := chk_0 he
  have hZinc := fun (k : Nat) (hk : zz zn Z k) => (Or.inr (hZ k hk) : zz none (fun _ => False) k ∨ _)
  have tg2 : ∀ k, zz zn Z k → w0.heap.size ≤ k := fun k hk => (hZinc k hk).elim ((fun _ h => zz_nil h) k) (fun h => by omega)
  have tn2_1 : ∀ k, zz zn Z k → k ≠ b1 := fun k hk => (hZinc k hk).elim ((fun _ h => zz_nil h) k) (fun h => by have := (B1).lt; omega)
  have tn2_2 : ∀ k, zz zn Z k → k ≠ b2 := fun k hk => (hZinc k hk).elim ((fun _ h => zz_nil h) k) (fun h => by have := (B2).lt; omega)
  have tn2_3 : ∀ k, zz zn Z k → k ≠ b3 := fun k hk => (hZinc k hk).elim ((fun _ h => zz_nil h) k) (fun h => by have := (B3).lt; omega)
  have tn2_4 : ∀ k, zz zn Z k → k ≠ b4 := fun k hk => (hZinc k hk).elim ((fun _ h => zz_nil h) k) (fun h => by have := (B4).lt; omega)
  refine lx_nil ?_
  refine wk_cond_f rfl ?_
  refine wk_skip ?_
  refine wk_seq ?_
  refine wk_region ?_
  refine lx_value (want rfl) (mv_pointer rfl) ?_
  refine lx_value (want rfl) (rn_loadBlk ag_38 sz_38 rfl (((B2.ext Eb3).ext Eb4).ext E1) rfl rfl) ?_
  refine lx_call (want rfl) (ent_func cf_71 (argsC (t_pointer rfl) (argsC (t_agg rfl) args0))) (pdo_ct Z b m [] hok (Nat.zero_le _) o hk w5 hM) ?_
  rintro _ w6 E2 ⟨rfl, Z2, hM2, hi2⟩
  have F8 := F5.new E2 (fun k h => tg2 k h)
  have hz2 := E2.size
  have tg3 : ∀ k, zz zn Z2 k → w0.heap.size ≤ k := fun k hk => (hi2 k hk).elim (tg2 k) (fun h => by omega)
  have tn3_1 : ∀ k, zz zn Z2 k → k ≠ b1 := fun k hk => (hi2 k hk).elim (tn2_1 k) (fun h => by have := (B1).lt; omega)
  have tn3_2 : ∀ k, zz zn Z2 k → k ≠ b2 := fun k hk => (hi2 k hk).elim (tn2_2 k) (fun h => by have := (B2).lt; omega)
  have tn3_3 : ∀ k, zz zn Z2 k → k ≠ b3 := fun k hk => (hi2 k hk).elim (tn2_3 k) (fun h => by have := (B3).lt; omega)
  have tn3_4 : ∀ k, zz zn Z2 k → k ≠ b4 := fun k hk => (hi2 k hk).elim (tn2_4 k) (fun h => by have := (B4).lt; omega)
  refine lx_value (want rfl) (mv_tuple rfl) ?_
  refine lx_value (want rfl) (rn_extract rfl rfl) ?_
  refine lx_value (want rfl) (rn_extract rfl rfl) ?_
  refine lx_new (want rfl) (rn_alloc ze_36) ?_
  intro b5 w7 hb5 Eb5 B5 hlb5
  have F9 := F8.ext Eb5
  have hzb5 := Eb5.size
  have nb1 : ∀ k, zz zn Z2 k → k ≠ b5 := fun k hk => by have := (hM2).lt hk; omega
  refine lx_set (want rfl) sz_36 rfl (t_agg rfl) rfl rfl rfl B5 (Nat.le_of_ble_eq_true rfl) ?_
  intro w8 Es3 Bs3
  have F10 := F9.set Es3 (by omega)
  have hzs3 := Es3.size
  refine lx_value (want rfl) (as_int rfl) ?_
  refine lx_nil ?_
  refine wk_seq ?_
  refine wk_seq ?_
  refine wk_region ?_
  refine lx_value (want rfl) (mv_int rfl) ?_
  refine lx_value (want rfl) (rn_neq rfl rfl) ?_
  refine lx_dec (fun herr => ?_) (fun herr => ?_)
  ·
   refine lx_nil ?_
   refine wk_cond_t rfl ?_
   refine wk_seq ?_
   refine wk_region ?_
   refine lx_value (want rfl) (rn_build0  (fun w => bd_24  w)) ?_
   refine lx_value (want rfl) (rn_build0  (fun w => bd_36  w)) ?_
   refine lx_value (want rfl) (mv_int rfl) ?_
   refine lx_set (want rfl) sz_24 rfl (t_agg rfl) rfl rfl rfl (((((B3.ext Eb4).ext E1).fr E2 (fun h => tn2_3 _ h rfl)).ext Eb5).ne Es3 (by omega)) (Nat.le_of_ble_eq_true rfl) ?_
   intro w9 Es4 Bs4
   have F11 := F10.set Es4 (by omega)
   have hzs4 := Es4.size
   refine lx_set (want rfl) sz_36 rfl (t_agg rfl) rfl rfl rfl (((((B4.ext E1).fr E2 (fun h => tn2_4 _ h rfl)).ext Eb5).ne Es3 (by omega)).ne Es4 (by omega)) (Nat.le_of_ble_eq_true rfl) ?_
   intro w10 Es5 Bs5
   have F12 := F11.set Es5 (by omega)
   have hzs5 := Es5.size
   refine lx_value (want rfl) (as_slice rfl) ?_
   refine lx_value (want rfl) (as_int rfl) ?_
   refine lx_nil ?_
   refine wk_ret ?_
   refine retR4 Tryz.results43 (.cell rfl (run_loadVar_blk ag_24 sz_24 (Bs4.ne Es5 (by omega)) rfl rfl)) (.cell rfl (run_loadVar_blk ag_36 sz_36 Bs5 rfl rfl)) (.tmp (t_slice rfl)) (.tmp (t_int rfl)) F12 ?_
   exact outD_err hok herr
  ·
   have herr0 : (doR m o).1 = 0 := Decidable.not_not.1 herr
   refine lx_nil ?_
   refine wk_cond_f rfl ?_
   refine wk_skip ?_
   refine wk_seq ?_
   obtain ⟨sN, cN, TN, stN, ctN, hTN, hBN, hTmN, hON, hq1, hq2, hq3, hzb, hzt, hzo, _⟩ := ((hM2.ext Eb5).fr Es3 (fun k hk h => nb1 k hk h))
   have hTlN := congrArg List.length hTN
   rw [List.length_map] at hTlN
   have hgb : w0.heap.size ≤ b := tg3 b hzb
   have hgt : ∀ k, mtb sN TN k → w0.heap.size ≤ k := fun k h => tg3 k (hzt k h)
   have hgo : ∀ k, ob stN k → w0.heap.size ≤ k := fun k h => tg3 k (hzo k h)
   have hnb1 : b ≠ b1 := tn3_1 b hzb
   have hnt1 : ∀ k, mtb sN TN k → k ≠ b1 := fun k h => tn3_1 k (hzt k h)
   have hno1 : ∀ k, ob stN k → k ≠ b1 := fun k h => tn3_1 k (hzo k h)
   have hnb2 : b ≠ b2 := tn3_2 b hzb
   have hnt2 : ∀ k, mtb sN TN k → k ≠ b2 := fun k h => tn3_2 k (hzt k h)
   have hno2 : ∀ k, ob stN k → k ≠ b2 := fun k h => tn3_2 k (hzo k h)
   have hnb3 : b ≠ b3 := tn3_3 b hzb
   have hnt3 : ∀ k, mtb sN TN k → k ≠ b3 := fun k h => tn3_3 k (hzt k h)
   have hno3 : ∀ k, ob stN k → k ≠ b3 := fun k h => tn3_3 k (hzo k h)
   have hnb4 : b ≠ b4 := tn3_4 b hzb
   have hnt4 : ∀ k, mtb sN TN k → k ≠ b4 := fun k h => tn3_4 k (hzt k h)
   have hno4 : ∀ k, ob stN k → k ≠ b4 := fun k h => tn3_4 k (hzo k h)
   have hnb5 : b ≠ b5 := nb1 b hzb
   have hnt5 : ∀ k, mtb sN TN k → k ≠ b5 := fun k h => nb1 k (hzt k h)
   have hno5 : ∀ k, ob stN k → k ≠ b5 := fun k h => nb1 k (hzo k h)
   have hlbN := hBN.lt
   refine wk_mixK2 9 4 5 (((((B3.ext Eb4).ext E1).fr E2 (fun h => tn2_3 _ h rfl)).ext Eb5).ne Es3 (by omega)) ((((B4.ext E1).fr E2 (fun h => tn2_4 _ h rfl)).ext Eb5).ne Es3 (by omega)) (by decide) (by omega) (fun kS => match kS with | 1 => .val (.agg #[.slice sN TN.length cN]) | 7 => .sto 4 33 (fun J u w => J.1 < J.2 ∧ Blk w J.1 u.cells.toList 24) | 8 => .sto 5 34 (fun J u w => J.1 < J.2 ∧ Blk w J.1 u.cells.toList 36) | _ => .none) (by kernel_rfl) (by kernel_rfl) (by intro kS G hk; (try dsimp only at hk); (split at hk) <;> first | (cases hk; done) | (injection hk with hk; subst hk; exact ⟨by intro j hkj I v w w' hR hG; first | exact hG, fun _ I v w w' hR hG => by first | exact hG⟩)) (by intro kS s y G hk; (try dsimp only at hk); (split at hk) <;> first | (cases hk; done) | (injection hk with hk1 hk2 hk3; subst hk1; subst hk2; subst hk3; exact ⟨by kernel_rfl, by intro j hkj I v w w' hR hG; exact ⟨hG.1, hG.2.ext hR⟩, fun I v w w' hR hG => ⟨hG.1, hG.2.fr hR (fun h => h.2 ⟨Nat.le_refl _, hG.1⟩)⟩⟩)) ?_
   simp only [List.take_succ_cons, List.take_zero, List.take_nil, List.drop_succ_cons, List.drop_zero, List.drop_nil]
   refine mx_calm rfl (want rfl) (fun u1 eu1 fu1 => mv_pointer rfl) ?_
   refine mx_val rfl (want rfl) (fun u2 eu2 fu2 => do_call (ent_func cf_72 (argsC (t_pointer rfl) args0)) (pout_ct b sN TN.length cN _ stN _ ctN u2 (hBN.fr (mG eu2) (show ¬ (b = b3 ∨ b = b4) by omega))) (fun _ _ E h => ⟨E, h⟩)) ?_
   refine mx_calm rfl (want rfl) (fun u3 eu3 fu3 => rn_loadBlk ag_36 sz_36 rfl (Bs3.fr (mG eu3) (show ¬ (b5 = b3 ∨ b5 = b4) by omega)) rfl rfl) ?_
   refine mx_calm rfl (want rfl) (fun u4 eu4 fu4 => mv_pointer rfl) ?_
   refine mx_calm rfl (want rfl) (fun u5 eu5 fu5 => rn_nilCheck rfl) ?_
   refine mx_calm rfl (want rfl) (fun u6 eu6 fu6 => rn_fieldAddr fa_113_2 rfl) ?_
   refine mx_calm rfl (want rfl) (fun u7 eu7 fu7 => rn_load1Blk ag_31 rfl (hBN.fr (mG eu7) (show ¬ (b = b3 ∨ b = b4) by omega)) rfl) ?_
   refine mx_sto rfl rfl rfl rfl (want rfl) (fun u8 eu8 fu8 _ => by obtain hB4 := fu8 4 _ rfl (show (4 : Nat) ∈ _ from by decide); exact (do_sto sz_24 rfl rfl rfl rfl rfl hB4 rfl ⟨Nat.le_refl _, (Nat.lt_succ_self _)⟩).mono (fun v w' h => ⟨h.1, h.2.1, (Nat.lt_succ_self _), h.2.2⟩)) ?_
   refine mx_sto rfl rfl rfl rfl (want rfl) (fun u9 eu9 fu9 _ => by obtain hB5 := fu9 5 _ rfl (show (5 : Nat) ∈ _ from by decide); exact (do_sto sz_36 rfl rfl rfl rfl rfl hB5 rfl ⟨Nat.le_refl _, (Nat.lt_succ_self _)⟩).mono (fun v w' h => ⟨h.1, h.2.1, (Nat.lt_succ_self _), h.2.2⟩)) ?_
   refine mx_nil (fun w9 E3' H1 HS => ?_)
   have E3 := mG E3'
   have F13 := F10.new E3 (fun k h => by have h : k = b3 ∨ k = b4 := h; omega)
   have hz3 := E3.size
   obtain ⟨_, _, hBK9_3⟩ := H1 4 _ rfl
   obtain ⟨_, _, hBK9_4⟩ := H1 5 _ rfl
   refine lx_value (want rfl) (as_slice rfl) ?_
   refine lx_value (want rfl) (as_int rfl) ?_
   refine lx_nil ?_
   refine wk_ret ?_
   refine retR4 Tryz.results43 (.cell rfl (run_loadVar_blk ag_24 sz_24 hBK9_3 rfl rfl)) (.cell rfl (run_loadVar_blk ag_36 sz_36 hBK9_4 rfl rfl)) (.tmp (t_slice rfl)) (.tmp (t_int rfl)) F13 ?_
   exact outD_ok (lo' := w0.heap.size) hok herr0 (hTN.trans (aft_0 herr0)) (hTmN.fr E3 (fun k h1 h2 => h2.elim (fun h => hnt3 k h1 h) (fun h => hnt4 k h1 h))) hgt (Nat.le_refl _) rfl rfl (own_tl (hON.fr E3 (fun k h1 h2 => h2.elim (fun h => hno3 k h1 h) (fun h => hno4 k h1 h))) hgo)

theorem pDraw_ct (m : Mem) (s : Option Addr) (c : Nat) (G : Nat → Prop) (hB : Bm m) (l : List Vl) (sl : Option Addr) (cl : Nat) (H : Nat → Prop) (hll : l.length ≤ 1048576) (w0 : World) (hm : MemS G w0 s m) (hl : VlS H w0 sl l) :
  CT Tryz.prog 30 [.agg #[.slice s m.length c], .slice sl l.length cl] w0 no (fun v w => DrawR w0.heap.size w v (drawR m l)) := by
 have hBl := hB.1
 have F0 := Fr.refl no w0
 refine ct_body Tryz.func30 rfl Tryz.ntmps30 (Nat.le_of_ble_eq_true rfl) ?_
 refine wk_seq ?_
 refine wk_region ?_
 refine lx_new (want rfl) (rn_box (t_agg rfl)) ?_
 intro b1 w1 hb1 Eb1 B1 hlb1
 have F1 := F0.ext Eb1
 have hzb1 := Eb1.size
 refine lx_new (want rfl) (rn_alloc ze_45) ?_
 intro b2 w2 hb2 Eb2 B2 hlb2
 have F2 := F1.ext Eb2
 have hzb2 := Eb2.size
 refine lx_value (want rfl) (as_int rfl) ?_
 refine lx_nil ?_
 refine wk_seq ?_
 refine wk_region ?_
 refine lx_value (want rfl) (rn_loadBlk ag_24 sz_24 rfl (B1.ext Eb2) rfl rfl) ?_
 refine lx_call (want rfl) (ent_func cf_70 (argsC (t_agg rfl) args0)) (CT.mono (open_ct m s c _ hB w2 (hm.fr (st_stab _) F2 (fun _ _ h => h))) (fun _ _ h => h) (fun v w2 _ h => h.all)) ?_
 rintro _ w3 E1 ⟨ad, rfl, hop⟩
 have F3 := F2.ext E1
 have hz1 := E1.size
 refine lx_value (want rfl) (mv_tuple rfl) ?_
 refine lx_value (want rfl) (rn_extract rfl rfl) ?_
 refine lx_value (want rfl) (rn_extract rfl rfl) ?_
 refine lx_new (want rfl) (rn_alloc ze_108) ?_
 intro b3 w4 hb3 Eb3 B3 hlb3
 have F4 := F3.ext Eb3
 have hzb3 := Eb3.size
 refine lx_set (want rfl) sz_108 rfl (t_pointer rfl) rfl rfl rfl B3 (Nat.le_of_ble_eq_true rfl) ?_
 intro w5 Es1 Bs1
 have F5 := F4.set Es1 (by omega)
 have hzs1 := Es1.size
 refine lx_value (want rfl) (as_int rfl) ?_
 refine lx_nil ?_
 refine wk_seq ?_
 refine wk_block ?_
 refine wk_seq ?_
 refine wk_region ?_
 refine lx_value (want rfl) (mv_int rfl) ?_
 refine lx_value (want rfl) (rn_neq rfl rfl) ?_
 refine lx_dec (fun he => ?_) (fun he => ?_)
 ·
  refine lx_value (want rfl) (as_bool rfl) ?_
  refine lx_nil ?_
  refine wk_cond_t rfl ?_
  refine wk_seq ?_
  refine wk_region ?_
  refine lx_value (want rfl) (rn_build0  (fun w => bd_45  w)) ?_
  refine lx_value (want rfl) (mv_int rfl) ?_
  refine lx_set (want rfl) sz_45 rfl (t_agg rfl) rfl rfl rfl (((B2.ext E1).ext Eb3).ne Es1 (by omega)) (Nat.le_of_ble_eq_true rfl) ?_
  intro w6 Es2 Bs2
  have F6 := F5.set Es2 (by omega)
  have hzs2 := Es2.size
  refine lx_value (want rfl) (as_int rfl) ?_
  refine lx_nil ?_
  refine wk_ret ?_
  refine retR2 Tryz.results30 (.cell rfl (run_loadVar_blk ag_45 sz_45 Bs2 rfl rfl)) (.tmp (t_int rfl)) F6 ?_
  exact drawR_chk he
 ·
  obtain ⟨b, Z, rfl, hM, hZ⟩ := hop he
  have hok := chk_0 he
  have hZinc := fun (k : Nat) (hk : zz zn Z k) => (Or.inr (hZ k hk) : zz none (fun _ => False) k ∨ _)
  have hM2 := hM.fr (Fr.trans (Fr.ext (Fr.refl (fun k => k = b3) w3) Eb3) Es1 (fun k _ h => h)) (fun k hk h => by have h1 := hM.lt hk; have h : k = b3 := h; omega)
  have tg2 : ∀ k, zz zn Z k → w0.heap.size ≤ k := fun k hk => (hZinc k hk).elim ((fun _ h => zz_nil h) k) (fun h => by omega)
  have tn2_1 : ∀ k, zz zn Z k → k ≠ b1 := fun k hk => (hZinc k hk).elim ((fun _ h => zz_nil h) k) (fun h => by have := (B1).lt; omega)
  have tn2_2 : ∀ k, zz zn Z k → k ≠ b2 := fun k hk => (hZinc k hk).elim ((fun _ h => zz_nil h) k) (fun h => by have := (B2).lt; omega)
  have hnx3 : ∀ k, zz zn Z k → k ≠ b3 := fun k hk => by have := hM.lt hk; omega
  refine lx_value (want rfl) (as_bool rfl) ?_
  refine lx_nil ?_
  refine wk_cond_f rfl ?_
  refine wk_seq ?_
  refine wk_seq ?_
  refine wk_region ?_
  refine lx_value (want rfl) (mv_slice rfl) ?_
  refine lx_value (want rfl) (rn_len Tryz.underlying30 rfl) ?_
  refine lx_value (want rfl) (rn_gtr rfl rfl) ?_
  refine lx_dec (fun h100 => ?_) (fun h100 => ?_)
  ·
   refine lx_value (want rfl) (as_bool rfl) ?_
   refine lx_nil ?_
   refine wk_cond_t rfl ?_
   refine wk_skip ?_
   refine wk_cond_t rfl ?_
   refine wk_seq ?_
   refine wk_region ?_
   refine lx_value (want rfl) (rn_build0  (fun w => bd_45  w)) ?_
   refine lx_set (want rfl) sz_45 rfl (t_agg rfl) rfl rfl rfl (((B2.ext E1).ext Eb3).ne Es1 (by omega)) (Nat.le_of_ble_eq_true rfl) ?_
   intro w6 Es3 Bs3
   have F7 := F5.set Es3 (by omega)
   have hzs3 := Es3.size
   refine lx_value (want rfl) (as_int rfl) ?_
   refine lx_nil ?_
   refine wk_ret ?_
   refine retR2 Tryz.results30 (.cell rfl (run_loadVar_blk ag_45 sz_45 Bs3 rfl rfl)) (.tmp (t_int rfl)) F7 ?_
   exact drawR_len hok h100
  ·
   refine lx_value (want rfl) (as_bool rfl) ?_
   refine lx_nil ?_
   refine wk_cond_f rfl ?_
   refine wk_region ?_
   refine lx_value (want rfl) (mv_slice rfl) ?_
   refine lx_value (want rfl) (rn_makeFunc (argsC (t_pointer rfl) args0)) ?_
   obtain ⟨sM, cM, TM, stM, ctM, hT, hTl, hBm, hTm, _⟩ := MO.parts hM2
   refine lx_call (want rfl) (ent_func cf_73 (argsC (t_slice rfl) (argsC (t_func rfl) args0))) (containsv_ct l _ _ _ 74 [.pointer (some ⟨b3, 0, none⟩)] (fun v => !isVal v m.length) cf_74 w5 (hl.fr (vl_stab _) F5 (fun _ _ h => h)) hll (fun z w hz E => pdraw1_ct z m.length hBl b3 b sM cM _ stM _ ctM w (Bs1.ext E) ((by rw [← hTl]; exact hBm : Blk _ _ [.slice sM m.length cM, _, _] 113).ext E))) ?_
   rintro _ w6 E2 rfl
   have F8 := F5.ext E2
   have hz2 := E2.size
   refine lx_split (fun hany => ?_) (fun hany => ?_)
   ·
    refine lx_value (want rfl) (as_bool rfl) ?_
    refine lx_nil ?_
    refine wk_cond_t rfl ?_
    refine wk_seq ?_
    refine wk_region ?_
    refine lx_value (want rfl) (rn_build0  (fun w => bd_45  w)) ?_
    refine lx_set (want rfl) sz_45 rfl (t_agg rfl) rfl rfl rfl ((((B2.ext E1).ext Eb3).ne Es1 (by omega)).ext E2) (Nat.le_of_ble_eq_true rfl) ?_
    intro w7 Es4 Bs4
    have F9 := F8.set Es4 (by omega)
    have hzs4 := Es4.size
    refine lx_value (want rfl) (as_int rfl) ?_
    refine lx_nil ?_
    refine wk_ret ?_
    refine retR2 Tryz.results30 (.cell rfl (run_loadVar_blk ag_45 sz_45 Bs4 rfl rfl)) (.tmp (t_int rfl)) F9 ?_
    exact drawR_val hok (any_all' hany)
   ·
    refine lx_value (want rfl) (as_bool rfl) ?_
    refine lx_nil ?_
    refine wk_cond_f rfl ?_
    refine wk_skip ?_
    refine wk_seq ?_
    refine wk_region ?_
    refine lx_value (want rfl) (rn_load1Blk ag_108 rfl (Bs1.ext E2) rfl) ?_
    refine lx_value (want rfl) (mv_slice rfl) ?_
    obtain ⟨sN, cN, TN, stN, ctN, hTN, _, hBN, hTmN, _⟩ := MO.parts (hM2.ext E2)
    refine lx_call (want rfl) (ent_func cf_76 (argsC (t_pointer rfl) (argsC (t_slice rfl) args0))) (pdraw_ct m hok b sN cN TN _ stN _ ctN l sl cl H hll (any_all hany) w6 hBN hTN hTmN (hl.fr (vl_stab _) F8 (fun _ _ h => h))) ?_
    rintro _ w7 E3 ⟨sP, cP, sQ, cQ, rfl, hPV, hPC⟩
    have F10 := F8.ext E3
    have hz3 := E3.size
    have hPR : PicR _ _ _ (drawP (cellsOfM m) l) := ⟨sP, cP, sQ, cQ, rfl, hPV, hPC⟩
    refine lx_set (want rfl) sz_45 rfl (t_agg rfl) rfl rfl rfl (((((B2.ext E1).ext Eb3).ne Es1 (by omega)).ext E2).ext E3) (Nat.le_of_ble_eq_true rfl) ?_
    intro w8 Es5 Bs5
    have F11 := F10.set Es5 (by omega)
    have hzs5 := Es5.size
    refine lx_value (want rfl) (as_int rfl) ?_
    refine lx_nil ?_
    refine wk_ret ?_
    refine retR2 Tryz.results30 (.cell rfl (run_loadVar_blk ag_45 sz_45 Bs5 rfl rfl)) (.tmp (t_int rfl)) F11 ?_
    exact drawR_ok hok h100 (any_all hany) ((hPR.fr (Fr.trans (Fr.refl (fun k => k = b2) w7) Es5 (fun k _ h => h)) (fun k h1 h2 h => by have h : k = b2 := h; omega)).mono (by omega))

end Go.Proofs.YtnhgfmbmfjmonaaGreatDoor

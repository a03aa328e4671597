/- What functions compute: palloc, showvalues, isstruct, pdo1, op3, op4. -/
import Derived.Test.YtnhgfmbmfjmonaaGreatDoorNamesFacts
import Derived.Test.YtnhgfmbmfjmonaaGreatDoorNamesPre
import Derived.Test.YtnhgfmbmfjmonaaGreatDoorNamesWalk2
import Derived.Test.YtnhgfmbmfjmonaaGreatDoorNamesWalk5
import Derived.Test.YtnhgfmbmfjmonaaGreatDoorNamesWalk8
import Derived.Test.YtnhgfmbmfjmonaaGreatDoorNamesWalk9
set_option maxRecDepth 100000
set_option linter.unusedVariables false
set_option linter.unusedSimpArgs false
namespace Go.Proofs.YtnhgfmbmfjmonaaGreatDoor
open Go Go.RowKit Go.Mix Go.Eng
theorem palloc_ct (Z : Nat → Prop) (b : Nat) (m : Mem) (tl : List Tl) (hl8 : m.length ≤ 400) (z : Vl) (w0 : World) (hM : MO Z w0 b m tl) :
  CT Tryz.prog 115 [.pointer (some ⟨b, 0, none⟩), .agg #[.int .u8 z.1, .int .i64 z.2]] w0 Z (fun v w => OutX Z w0.heap.size b m tl w v (allocR m z)) := by
 obtain ⟨sM, cM, TM, stM, ctM, hT, hBm, hTm, hOm, hnb, hnt, hsep, hZb50, hZt1, hZo2, hZl⟩ := hM
 have hTl : TM.length = m.length := by have := congrArg List.length hT; simpa using this
 have hlb := hBm.lt
 have F0 := Fr.refl Z w0
 have zt1 : ∀ k, mtb sM TM k → Z k ∨ w0.heap.size ≤ k := fun k h => .inl (hZt1 k h)
 have zo2 : ∀ k, ob stM k → Z k ∨ w0.heap.size ≤ k := fun k h => .inl (hZo2 k h)
 refine ct_body Tryz.func115 rfl Tryz.ntmps115 (Nat.le_of_ble_eq_true rfl) ?_
 refine wk_seq ?_
 refine wk_region ?_
 refine lx_new (want rfl) (rn_box (t_agg rfl)) ?_
 intro b21 w1 hb21 Eb21 B21 hlb21
 have F1 := F0.ext Eb21
 have hzb21 := Eb21.size
 have nb1 : ∀ k, ob stM k → k ≠ b21 := fun k hk => by have := (hOm).lt hk; omega
 have nb2 : ∀ k, mtb sM TM k → k ≠ b21 := fun k hk => by have := (hTm).lt hk; omega
 refine lx_new (want rfl) (rn_alloc ze_36) ?_
 intro b22 w2 hb22 Eb22 B22 hlb22
 have F2 := F1.ext Eb22
 have hzb22 := Eb22.size
 have nb3 : ∀ k, ob stM k → k ≠ b22 := fun k hk => by have := (hOm).lt hk; omega
 have nb4 : ∀ k, mtb sM TM k → k ≠ b22 := fun k hk => by have := (hTm).lt hk; omega
 refine lx_value (want rfl) (as_int rfl) ?_
 refine lx_nil ?_
 refine wk_seq ?_
 refine wk_block ?_
 refine wk_seq ?_
 refine wk_region ?_
 refine lx_value (want rfl) (rn_loadBlk ag_36 sz_36 rfl (B21.ext Eb22) rfl rfl) ?_
 refine lx_call (want rfl) (ent_func cf_139 (argsC (t_agg rfl) args0)) (isbad_ct _ _ w2) ?_
 rintro _ w3 E1 rfl
 have F3 := F2.ext E1
 have hz1 := E1.size
 refine lx_split (fun h5 => ?_) (fun h5 => ?_)
 ·
  have h5 := of_decide_eq_true h5
  refine lx_value (want rfl) (as_bool rfl) ?_
  refine lx_nil ?_
  refine wk_cond_t rfl ?_
  refine wk_seq ?_
  refine wk_region ?_
  refine lx_value (want rfl) (rn_loadBlk ag_36 sz_36 rfl ((B21.ext Eb22).ext E1) rfl rfl) ?_
  refine lx_set (want rfl) sz_36 rfl (t_agg rfl) rfl rfl rfl (B22.ext E1) (Nat.le_of_ble_eq_true rfl) ?_
  intro w4 Es1 Bs1
  have F4 := F3.set Es1 (by omega)
  have hzs1 := Es1.size
  refine lx_value (want rfl) (as_int rfl) ?_
  refine lx_nil ?_
  refine wk_ret ?_
  refine retR2 Tryz.results115 (.cell rfl (run_loadVar_blk ag_36 sz_36 Bs1 rfl rfl)) (.tmp (t_int rfl)) F4 ?_
  exact outx_old (alX_5 h5) rfl (mo_mk hT ((((hBm.ext Eb21).ext Eb22).ext E1).ne Es1 (by omega)) rfl rfl rfl ((((hTm.ext Eb21).ext Eb22).ext E1).fr Es1 (fun k hk h => nb4 k hk h)) ((((hOm.ext Eb21).ext Eb22).ext E1).ne Es1 (fun h => nb3 _ h rfl)) hnb hnt hsep (.inl hZb50) zt1 zo2)
 ·
  have h5 := of_decide_eq_false h5
  refine lx_value (want rfl) (as_bool rfl) ?_
  refine lx_nil ?_
  refine wk_cond_f rfl ?_
  refine wk_seq ?_
  refine wk_region ?_
  refine lx_value (want rfl) (rn_fieldAddr fa_36_0 rfl) ?_
  refine lx_value (want rfl) (rn_load1Blk ag_5 rfl ((B21.ext Eb22).ext E1) rfl) ?_
  refine lx_value (want rfl) (rn_neq rfl rfl) ?_
  refine lx_dec (fun h1 => ?_) (fun h1 => ?_)
  ·
   refine lx_value (want rfl) (as_bool rfl) ?_
   refine lx_nil ?_
   refine wk_cond_t rfl ?_
   refine wk_seq ?_
   refine wk_region ?_
   refine lx_call (want rfl) (ent_func cf_141 (argsC (t_int rfl) args0)) (bad_ct _ w3) ?_
   rintro _ w4 E2 rfl
   have F5 := F3.ext E2
   have hz2 := E2.size
   refine lx_set (want rfl) sz_36 rfl (t_agg rfl) rfl rfl rfl ((B22.ext E1).ext E2) (Nat.le_of_ble_eq_true rfl) ?_
   intro w5 Es2 Bs2
   have F6 := F5.set Es2 (by omega)
   have hzs2 := Es2.size
   refine lx_value (want rfl) (as_int rfl) ?_
   refine lx_nil ?_
   refine wk_ret ?_
   refine retR2 Tryz.results115 (.cell rfl (run_loadVar_blk ag_36 sz_36 Bs2 rfl rfl)) (.tmp (t_int rfl)) F6 ?_
   exact outx_old (alX_1 h5 h1) rfl (mo_mk hT (((((hBm.ext Eb21).ext Eb22).ext E1).ext E2).ne Es2 (by omega)) rfl rfl rfl (((((hTm.ext Eb21).ext Eb22).ext E1).ext E2).fr Es2 (fun k hk h => nb4 k hk h)) (((((hOm.ext Eb21).ext Eb22).ext E1).ext E2).ne Es2 (fun h => nb3 _ h rfl)) hnb hnt hsep (.inl hZb50) zt1 zo2)
  ·
   refine lx_value (want rfl) (as_bool rfl) ?_
   refine lx_nil ?_
   refine wk_cond_f rfl ?_
   refine wk_seq ?_
   refine wk_region ?_
   refine lx_value (want rfl) (rn_fieldAddr fa_36_1 rfl) ?_
   refine lx_value (want rfl) (rn_load1Blk ag_3 rfl ((B21.ext Eb22).ext E1) rfl) ?_
   refine lx_call (want rfl) (ent_func cf_94 (argsC (t_int rfl) (argsC (t_int rfl) (argsC (t_int rfl) args0)))) (within_ct _ _ _ w3) ?_
   rintro _ w4 E3 rfl
   have F7 := F3.ext E3
   have hz3 := E3.size
   refine lx_split (fun hin => ?_) (fun hin => ?_)
   ·
    have hin := of_decide_eq_true hin
    refine lx_value (want rfl) (rn_not rfl) ?_
    refine lx_value (want rfl) (as_bool rfl) ?_
    refine lx_nil ?_
    refine wk_cond_f rfl ?_
    refine wk_seq ?_
    refine wk_region ?_
    refine lx_value (want rfl) (mv_pointer rfl) ?_
    refine lx_value (want rfl) (rn_nilCheck rfl) ?_
    refine lx_value (want rfl) (rn_fieldAddr fa_113_0 rfl) ?_
    refine lx_value (want rfl) (rn_load1Blk ag_22 rfl ((((hBm.ext Eb21).ext Eb22).ext E1).ext E3) rfl) ?_
    refine lx_value (want rfl) (rn_len Tryz.underlying22 rfl) ?_
    refine lx_value (want rfl) (rn_eql rfl rfl) ?_
    refine lx_dec (fun h400 => ?_) (fun h400 => ?_)
    ·
     refine lx_value (want rfl) (as_bool rfl) ?_
     refine lx_nil ?_
     refine wk_cond_t rfl ?_
     refine wk_seq ?_
     refine wk_region ?_
     refine lx_value (want rfl) (rn_build0  (fun w => bd_36  w)) ?_
     refine lx_set (want rfl) sz_36 rfl (t_agg rfl) rfl rfl rfl ((B22.ext E1).ext E3) (Nat.le_of_ble_eq_true rfl) ?_
     intro w5 Es3 Bs3
     have F8 := F7.set Es3 (by omega)
     have hzs3 := Es3.size
     refine lx_value (want rfl) (as_int rfl) ?_
     refine lx_nil ?_
     refine wk_ret ?_
     refine retR2 Tryz.results115 (.cell rfl (run_loadVar_blk ag_36 sz_36 Bs3 rfl rfl)) (.tmp (t_int rfl)) F8 ?_
     exact outx_err (alX_full h5 h1 hin (by rw [← hTl]; exact h400)) (by decide) rfl (mo_mk hT (((((hBm.ext Eb21).ext Eb22).ext E1).ext E3).ne Es3 (by omega)) rfl rfl rfl (((((hTm.ext Eb21).ext Eb22).ext E1).ext E3).fr Es3 (fun k hk h => nb4 k hk h)) (((((hOm.ext Eb21).ext Eb22).ext E1).ext E3).ne Es3 (fun h => nb3 _ h rfl)) hnb hnt hsep (.inl hZb50) zt1 zo2)
    ·
     refine lx_value (want rfl) (as_bool rfl) ?_
     refine lx_nil ?_
     refine wk_cond_f rfl ?_
     refine wk_skip ?_
     refine wk_seq ?_
     have hTo := ((((hTm.ext Eb21).ext Eb22).ext E1).ext E3)
     have hz2 : z.2 = ((z.2.toNat : Nat) : Int) := by omega
     have hTC := hT
     have hSl : ∀ k, (ob sM) k → k < w4.heap.size := fun k h => (((((hTm.ext Eb21).ext Eb22).ext E1).ext E3)).lt (.inl h)
     refine wk_mixA 13 12 (ob sM) (fun kS => match kS with | 5 => .val (.agg #[.int .u8 0, .int .i64 0]) | 6 => .any (fun I v w => ∃ b, v = .slice (some ⟨b, 0, none⟩) 1 1 ∧ w4.heap.size ≤ b ∧ (I.1 ≤ b ∧ b < I.2) ∧ Blk w b hzC 36) | 9 => .any (fun I v w => ∃ b4, v = .slice (some ⟨b4, 0, none⟩) z.2.toNat z.2.toNat ∧ w4.heap.size ≤ b4 ∧ Blk w b4 ((List.replicate z.2.toNat [Value.int .u8 0, .int .i64 0]).flatten) 36) | 10 => .any (fun I v w => ∃ b4, v = .agg #[.slice (some ⟨b4, 0, none⟩) z.2.toNat z.2.toNat, .slice none 0 0] ∧ w4.heap.size ≤ b4 ∧ Blk w b4 ((List.replicate z.2.toNat [Value.int .u8 0, .int .i64 0]).flatten) 36) | 11 => .any (fun I v w => ∃ b b4, v = .slice (some ⟨b, 0, none⟩) 1 1 ∧ w4.heap.size ≤ b ∧ Blk w b [.slice (some ⟨b4, 0, none⟩) z.2.toNat z.2.toNat, .slice none 0 0] 65 ∧ w4.heap.size ≤ b4 ∧ Blk w b4 ((List.replicate z.2.toNat [Value.int .u8 0, .int .i64 0]).flatten) 36) | 12 => .any (fun I v w => ∃ (e : SE Vl Rd) (s : Option Addr) (c : Nat), v = .slice s (TM ++ [e]).length c ∧ e.abs = (holesN z.2.toNat, []) ∧ MTab w 65 36 2 vlC 115 2 rdC s c (TM ++ [e]) ∧ ∀ k, mtb s (TM ++ [e]) k → (mtb sM TM k ∨ w4.heap.size ≤ k)) | _ => .none) (by kernel_rfl) (by kernel_rfl) (by intro kS G hk; (try dsimp only at hk); (split at hk) <;> first | (cases hk; done) | (injection hk with hk; subst hk; exact ⟨by intro j hkj I v w w' hR hG; first | exact hG | (obtain ⟨b, h1, h2, h3⟩ := hG; exact ⟨b, h1, h2, h3.fr (mS hR) (fun hs => by have := hTo.out.lt hs; omega)⟩) | (obtain ⟨b, b4, h1, h2, h3, h4, h5⟩ := hG; exact ⟨b, b4, h1, h2, h3.fr (mS hR) (fun hs => by have := hTo.out.lt hs; omega), h4, h5.fr (mS hR) (fun hs => by have := hTo.out.lt hs; omega)⟩) | (obtain ⟨e, s, c, h1, h2, h3, h4⟩ := hG; exact ⟨e, s, c, h1, h2, h3.ext (mT hkj hR), h4⟩) | (obtain ⟨b, h1, h2, hI, h3⟩ := hG; exact ⟨b, h1, h2, hI, h3.fr (mS hR) (fun hs => by have := hSl _ hs; omega)⟩) | (obtain ⟨b, h1, h2, h3⟩ := hG; exact ⟨b, h1, h2, h3.fr (mS hR) (fun hs => by have := hTo.out.lt hs; omega)⟩), fun ⟨_, _, _, _, hs⟩ => by (try dsimp only at hs); split at hs <;> cases hs⟩)) (by intro kS s y G hk; (try dsimp only at hk); split at hk <;> cases hk) ?_
     simp only [List.take_succ_cons, List.take_zero, List.take_nil, List.drop_succ_cons, List.drop_zero, List.drop_nil]
     refine mx_calm rfl (want rfl) (fun u1 eu1 fu1 => mv_pointer rfl) ?_
     refine mx_calm rfl (want rfl) (fun u2 eu2 fu2 => mv_pointer rfl) ?_
     refine mx_calm rfl (want rfl) (fun u3 eu3 fu3 => rn_nilCheck rfl) ?_
     refine mx_calm rfl (want rfl) (fun u4 eu4 fu4 => rn_fieldAddr fa_113_0 rfl) ?_
     refine mx_calm rfl (want rfl) (fun u5 eu5 fu5 => rn_load1Blk ag_22 rfl (((((hBm.ext Eb21).ext Eb22).ext E1).ext E3).fr (mD (by decide) eu5) (fun h => hnb _ (.inl h) rfl)) rfl) ?_
     refine mx_val rfl (want rfl) (fun u6 eu6 fu6 => do_call (ent_func cf_105 args0) (hole_ct u6) (fun _ _ E h => ⟨(mE (by decide) E), h⟩)) ?_
     refine mx_any rfl rfl (want rfl) (fun u7 eu7 fu7 => (do_newS2 (rn_bslice (xs := [.tmp 34]) Tryz.underlying30 sz_36 ze_36 rfl (argsC (t_agg rfl) args0) (CL.cons rfl rfl CL.nil) rfl (Nat.le_of_ble_eq_true rfl)) (show _ ≤ _ from ((mD (by decide) eu7)).size)).mono (fun v w' h => ⟨(mE (by decide) h.1), h.2⟩)) (fun I35 v35 => ?_)
     refine mx_calm rfl (want rfl) (fun u8 eu8 fu8 => rn_fieldAddr fa_36_1 rfl) ?_
     refine mx_calm rfl (want rfl) (fun u9 eu9 fu9 => rn_load1Blk ag_3 rfl ((((B21.ext Eb22).ext E1).ext E3).fr (mD (by decide) eu9) (fun h => nb2 _ (.inl h) rfl)) rfl) ?_
     refine mx_any rfl rfl (want rfl) (fun u10 eu10 fu10 => by obtain ⟨b35, rfl, hb35, _, hB35⟩ := fu10 35 _ rfl (show (35 : Nat) ∈ _ from by decide); exact do_call (ent_func cf_152 (argsC (t_slice rfl) (argsC (t_int rfl) args0))) (by have hrp := repeat_ct z.2.toNat (by omega) b35 u10 hB35; rw [← hz2] at hrp; exact hrp) (fun v w' E h => ⟨(mE (by decide) E), by obtain ⟨b, h2, h3, h4⟩ := h; exact ⟨b, h2, Nat.le_trans (mD (by decide) eu10).size h3, h4⟩⟩)) (fun I38 v38 => ?_)
     refine mx_any rfl rfl (want rfl) (fun u11 eu11 fu11 => by obtain ⟨b4, rfl, hb4, hB4⟩ := fu11 38 _ rfl (show (38 : Nat) ∈ _ from by decide); exact do_value (rn_build1 (t_slice rfl) (fun w => bd_65_0 _ _ _ w)) ⟨(mE (by decide) (Fr.refl no _)), ⟨b4, rfl, hb4, hB4⟩⟩) (fun I39 v39 => ?_)
     refine mx_any rfl rfl (want rfl) (fun u12 eu12 fu12 => by obtain ⟨b4, rfl, hb4, hB4⟩ := fu12 39 _ rfl (show (39 : Nat) ∈ _ from by decide); exact (do_newS2 (rn_bslice (xs := [.tmp 39]) Tryz.underlying22 sz_65 ze_65 rfl (argsC (t_agg rfl) args0) (CL.cons rfl rfl CL.nil) rfl (Nat.le_of_ble_eq_true rfl)) (show _ ≤ _ from ((mD (by decide) eu12)).size)).mono (fun v w' h => ⟨(mE (by decide) h.1), by obtain ⟨h1, b, h2, h3, _, h4⟩ := h; exact ⟨b, b4, h2, h3, h4, hb4, hB4.ext h1⟩⟩)) (fun I40 v40 => ?_)
     refine mx_any rfl rfl (want rfl) (fun u13 eu13 fu13 => by obtain ⟨b29, b4, rfl, hb29, hB29, hb4, hB4⟩ := fu13 40 _ rfl (show (40 : Nat) ∈ _ from by decide); exact do_append 48 Tryz.underlying22 ti_65 (by decide) rfl (by decide) rfl rfl (((((hTm.ext Eb21).ext Eb22).ext E1).ext E3).ext (mC eu13)).out (Src.blk hB29 rfl rfl) (by have := congrArg List.length hTC; simp at this; omega) (fun sA cA wA AP => ⟨(mF AP.fr), by obtain ⟨g1, g2⟩ := MTab.snoc (e := ((some ⟨b4, 0, none⟩, z.2.toNat, holesN z.2.toNat), (none, 0, []))) (((((hTm.ext Eb21).ext Eb22).ext E1).ext E3).ext (mC eu13)) (holes_own hB4 (by omega)) (OwnS.nil _ _ _) (fun k _ h => ob_none h) (fun k hk hb => by have := hTo.lt hb; rcases hk with hk | hk; have := ob_some hk; omega; exact ob_none hk) (by have el : (holesN z.2.toNat).length = z.2.toNat := List.length_replicate; simp only [SE.vs, TE.v, el]; exact AP); exact ⟨_, sA, cA, by simp, rfl, g1, fun k hk => (g2 k hk).elim .inl (fun h => .inr (h.elim (fun h => h.elim (fun h => by have := ob_some h; omega) (fun h => ob_none h)) (fun h => Nat.le_trans (mC eu13).size h)))⟩⟩)) (fun I41 v41 => ?_)
     refine mx_nil (fun w5 E4' H1 HS => ?_)
     have E4 := mG E4'
     have F9 := F7.new' E4 (fun k h => zt1 k (.inl h))
     have hz4 := E4.size
     have hI41 := (HS.1 41 _ rfl).2
     have hI40 := (HS.1 40 _ rfl).2
     have hI39 := (HS.1 39 _ rfl).2
     have hI38 := (HS.1 38 _ rfl).2
     have hI35 := (HS.1 35 _ rfl).2
     have hX41_40 := HS.2 41 _ 40 _ rfl rfl (show (41 : Nat) ≠ 40 from by decide)
     have hX41_39 := HS.2 41 _ 39 _ rfl rfl (show (41 : Nat) ≠ 39 from by decide)
     have hX41_38 := HS.2 41 _ 38 _ rfl rfl (show (41 : Nat) ≠ 38 from by decide)
     have hX41_35 := HS.2 41 _ 35 _ rfl rfl (show (41 : Nat) ≠ 35 from by decide)
     have hX40_39 := HS.2 40 _ 39 _ rfl rfl (show (40 : Nat) ≠ 39 from by decide)
     have hX40_38 := HS.2 40 _ 38 _ rfl rfl (show (40 : Nat) ≠ 38 from by decide)
     have hX40_35 := HS.2 40 _ 35 _ rfl rfl (show (40 : Nat) ≠ 35 from by decide)
     have hX39_38 := HS.2 39 _ 38 _ rfl rfl (show (39 : Nat) ≠ 38 from by decide)
     have hX39_35 := HS.2 39 _ 35 _ rfl rfl (show (39 : Nat) ≠ 35 from by decide)
     have hX38_35 := HS.2 38 _ 35 _ rfl rfl (show (38 : Nat) ≠ 35 from by decide)
     simp only at hI41
     simp only at hI40
     simp only at hI39
     simp only at hI38
     simp only at hI35
     simp only at hX41_40
     simp only at hX41_39
     simp only at hX41_38
     simp only at hX41_35
     simp only at hX40_39
     simp only at hX40_38
     simp only at hX40_35
     simp only at hX39_38
     simp only at hX39_35
     simp only at hX38_35
     have g41 := H1 41 _ rfl
     obtain ⟨e, sN, cN, rfl, he, hTN, hIN⟩ := g41
     have tg1 : ∀ k, mtb sN (TM ++ [e]) k → Z k ∨ w0.heap.size ≤ k := fun k hk => (hIN k hk).elim (zt1 k) (fun h => .inr (by omega))
     have tn1_50 : ∀ k, mtb sN (TM ++ [e]) k → k ≠ b := fun k hk => (hIN k hk).elim (hnb k) (fun h => by have := (hBm).lt; omega)
     have tn1_21 : ∀ k, mtb sN (TM ++ [e]) k → k ≠ b21 := fun k hk => (hIN k hk).elim (nb2 k) (fun h => by have := (B21).lt; omega)
     have tn1_22 : ∀ k, mtb sN (TM ++ [e]) k → k ≠ b22 := fun k hk => (hIN k hk).elim (nb4 k) (fun h => by have := (B22).lt; omega)
     have ts1_2 : ∀ k, mtb sN (TM ++ [e]) k → ob stM k → False := fun k hk h2 => (hIN k hk).elim (fun h => hsep k h h2) (fun h => by have := (hOm).lt h2; omega)
     have g40 := H1 40 _ rfl
     have g39 := H1 39 _ rfl
     have g38 := H1 38 _ rfl
     have g35 := H1 35 _ rfl
     obtain ⟨bS35, rfl, hbbS35, hibS35, hBbS35⟩ := g35
     refine lx_value (want rfl) (rn_nilCheck rfl) ?_
     refine lx_value (want rfl) (rn_fieldAddr fa_113_0 rfl) ?_
     refine lx_set (want rfl) sz_22 rfl (t_slice rfl) rfl rfl rfl (((((hBm.ext Eb21).ext Eb22).ext E1).ext E3).fr E4 (fun h => hnb _ (.inl h) rfl)) (Nat.le_of_ble_eq_true rfl) ?_
     intro w6 Es4 Bs4
     have F10 := F9.new' Es4 (fun k h => by have h : k = b := h; rw [h]; exact (.inl hZb50))
     have hzs4 := Es4.size
     refine lx_nil ?_
     refine wk_seq ?_
     refine wk_region ?_
     refine lx_value (want rfl) (mv_pointer rfl) ?_
     refine lx_value (want rfl) (rn_nilCheck rfl) ?_
     refine lx_value (want rfl) (rn_fieldAddr fa_113_0 rfl) ?_
     refine lx_value (want rfl) (rn_load1Blk ag_22 rfl Bs4 rfl) ?_
     refine lx_value (want rfl) (rn_len Tryz.underlying22 rfl) ?_
     refine lx_value (want rfl) (rn_sub rfl rfl (by have h9 : (TM ++ [e]).length = TM.length + 1 := List.length_append; omega)) ?_
     refine lx_value (want rfl) (rn_build2 (t_int rfl) (t_int rfl) (fun w => bd_36_0_1 _ _ w)) ?_
     refine lx_set (want rfl) sz_36 rfl (t_agg rfl) rfl rfl rfl ((((B22.ext E1).ext E3).fr E4 (fun h => nb4 _ (.inl h) rfl)).ne Es4 (by omega)) (Nat.le_of_ble_eq_true rfl) ?_
     intro w7 Es5 Bs5
     have F11 := F10.set Es5 (by omega)
     have hzs5 := Es5.size
     refine lx_value (want rfl) (as_int rfl) ?_
     refine lx_nil ?_
     refine wk_ret ?_
     refine retR2 Tryz.results115 (.cell rfl (run_loadVar_blk ag_36 sz_36 Bs5 rfl rfl)) (.tmp (t_int rfl)) F11 ?_
     exact outx_mk (alX_new h5 h1 hin (by rw [← hTl]; exact h400)) (al_num hTl) rfl (mo_mk (al_tab hT he) (Bs4.ne Es5 (by omega)) rfl (by show _ = ((waits (m ++ [(holesN z.2.toNat, [])]) : Nat) : Int); rw [alloc_waits]) (by simp) ((hTN.fr Es4 (fun k hk h => tn1_50 k hk h)).fr Es5 (fun k hk h => tn1_22 k hk h)) (by rw [List.append_nil]; exact (((((((hOm.ext Eb21).ext Eb22).ext E1).ext E3).fr E4 (fun k h1 h => hsep k (.inl h) h1)).ne Es4 (fun h => hnt _ h rfl)).ne Es5 (fun h => nb3 _ h rfl))) tn1_50 hnt ts1_2 (.inl hZb50) tg1 zo2)
   ·
    have hin := of_decide_eq_false hin
    refine lx_value (want rfl) (rn_not rfl) ?_
    refine lx_value (want rfl) (as_bool rfl) ?_
    refine lx_nil ?_
    refine wk_cond_t rfl ?_
    refine wk_seq ?_
    refine wk_region ?_
    refine lx_call (want rfl) (ent_func cf_141 (argsC (t_int rfl) args0)) (bad_ct _ w4) ?_
    rintro _ w5 E5 rfl
    have F12 := F7.ext E5
    have hz5 := E5.size
    refine lx_set (want rfl) sz_36 rfl (t_agg rfl) rfl rfl rfl (((B22.ext E1).ext E3).ext E5) (Nat.le_of_ble_eq_true rfl) ?_
    intro w6 Es6 Bs6
    have F13 := F12.set Es6 (by omega)
    have hzs6 := Es6.size
    refine lx_value (want rfl) (as_int rfl) ?_
    refine lx_nil ?_
    refine wk_ret ?_
    refine retR2 Tryz.results115 (.cell rfl (run_loadVar_blk ag_36 sz_36 Bs6 rfl rfl)) (.tmp (t_int rfl)) F13 ?_
    exact outx_old (alX_4 h5 h1 hin) rfl (mo_mk hT ((((((hBm.ext Eb21).ext Eb22).ext E1).ext E3).ext E5).ne Es6 (by omega)) rfl rfl rfl ((((((hTm.ext Eb21).ext Eb22).ext E1).ext E3).ext E5).fr Es6 (fun k hk h => nb4 k hk h)) ((((((hOm.ext Eb21).ext Eb22).ext E1).ext E3).ext E5).ne Es6 (fun h => nb3 _ h rfl)) hnb hnt hsep (.inl hZb50) zt1 zo2)

set_option maxHeartbeats 2000000 in
theorem showvalues_ct (Z : Nat → Prop) (b : Nat) (bs : List UInt8) (A : List (List Vl)) (ck : Nat) (sk : Option Addr) (G : Nat → Prop) (Ok : Vl → Prop) (T : World → Prop) (hS : ShowOk Tryz.prog A Ok G T) (d : Nat) (hd12 : d ≤ 12) (l : List Vl) (s : Option Addr) (c : Nat) (F : Nat → Prop) (hFZ : ∀ k, F k → ¬ Z k) (hGZ : ∀ k, G k → ¬ Z k) (hOv : ∀ v ∈ l, Ok v) (hll : l.length ≤ 1048576) (hbd : bs.length ≤ 10000) (hval : ValP Tryz.prog A b sk ck G Ok T d) (w0 : World) (hFl : ∀ k, F k → k < w0.heap.size) (hGl : ∀ k, G k → k < w0.heap.size) (hM : SH Z w0 b bs sk A.length ck) (hl : VlS F w0 s l) (hk : VvS G w0 sk A) (hTw : T w0) :
  CT Tryz.prog 95 [.pointer (some ⟨b, 0, none⟩), .slice s l.length c, .int .i64 (d : Nat)] w0 Z (fun _ w => OutS Z w0.heap.size b w sk A.length ck (QL A bs d l l.length)) := by
 have hZt1 : ∀ k, zz zn Z k → Z k := fun k h => h
 have hZb := hM.in
 have hlb := hM.lt hZb
 have F0 := Fr.refl Z w0
 have zt1 : ∀ k, zz zn Z k → Z k ∨ w0.heap.size ≤ k := fun k h => .inl (hZt1 k h)
 refine ct_body Tryz.func95 rfl Tryz.ntmps95 (Nat.le_of_ble_eq_true rfl) ?_
 refine wk_seq ?_
 refine wk_region ?_
 refine lx_value (want rfl) (mv_slice rfl) ?_
 refine lx_value (want rfl) (rn_len Tryz.underlying30 rfl) ?_
 refine lx_value (want rfl) (mv_int rfl) ?_
 refine lx_nil ?_
 refine wk_block ?_
 refine wk_loopA [6, 7, 10, 11, 12, 13, 14, 15, 16, 17, 18, 19, 20, 21, 22, 23, 24, 25, 26, 27] (fun j => Z j ∨ w0.heap.size ≤ j) (fun nM ρ w => ∃ (i : Nat) (bq : List UInt8) (TT1_1 : Nat → Prop), nM = l.length - i ∧ ρ 10 = .int .i64 i ∧ SH TT1_1 w b bq sk A.length ck ∧ (∀ k, zz zn TT1_1 k → Z k ∨ w0.heap.size ≤ k) ∧ (i ≤ l.length) ∧ (Cut bq (bs ++ joinN (txV A d) l i)) ∧ (bs.length ≤ bq.length) ∧ (bq.length ≤ max bs.length (2532 + 30 * d))) _ ⟨0, bs, Z, rfl, rfl, hM, zt1, by omega, by rw [joinN_0, List.append_nil]; exact Cut.refl _, Nat.le_refl _, by omega⟩ ?_
 rintro n1 ρ1 w1 A1 EL1 ⟨i, bq, TT1_1, rfl, hs1_10, tw1L_1, tg1L_1, hi, hc, hlw, hup⟩
 have F1 := F0.wide EL1
 have hzL1 := EL1.size
 refine wk_seq ?_
 refine wk_region ?_
 refine lx_value (want rfl) (rn_lss hs1_10 (A1.at 9 rfl rfl)) ?_
 refine lx_dec (fun hlt => ?_) (fun hlt => ?_)
 ·
  obtain ⟨vq, hv⟩ := getx hlt
  obtain ⟨bv, ov, rfl, hFv, hcv⟩ := hl i vq hv
  have hvm := List.mem_of_getElem? hv
  refine lx_nil ?_
  refine wk_seq ?_
  refine wk_cond_t rfl ?_
  refine wk_skip ?_
  refine wk_seq ?_
  refine wk_block ?_
  refine wk_seq ?_
  refine wk_region ?_
  refine lx_value (want rfl) (mv_int hs1_10) ?_
  refine lx_value (want rfl) (rn_index _ Tryz.underlying30 sz_36 (A1.at 8 rfl rfl) hs1_10 rfl (by omega)) ?_
  refine lx_value (want rfl) (rn_load2 ag_36 sz_36 rfl (F1.cell (hFZ _ hFv) (hcv 0 _ rfl)) (F1.cell (hFZ _ hFv) (hcv 1 _ rfl))) ?_
  refine lx_new (want rfl) (rn_alloc ze_36) ?_
  intro b1 w2 hb1 Eb1 B1 hlb1
  have F2 := F1.ext Eb1
  have hzb1 := Eb1.size
  have nb1 : ∀ k, zz zn TT1_1 k → k ≠ b1 := fun k hk => by have := (tw1L_1).lt hk; omega
  refine lx_value (want rfl) (as_int rfl) ?_
  refine lx_set (want rfl) sz_36 rfl (t_agg rfl) rfl rfl rfl B1 (Nat.le_of_ble_eq_true rfl) ?_
  intro w3 Es1 Bs1
  have F3 := F2.set Es1 (by omega)
  have hzs1 := Es1.size
  refine lx_nil ?_
  refine wk_seq ?_
  refine wk_seq ?_
  refine wk_region ?_
  refine lx_value (want rfl) (mv_pointer (A1.at 0 rfl rfl)) ?_
  refine lx_call (want rfl) (ent_func cf_96 (argsC (t_pointer rfl) args0)) (isfullS_ct ((tw1L_1.ext Eb1).fr Es1 (fun k hk h => nb1 k hk h))) ?_
  rintro _ w4 E1 rfl
  have F4 := F3.ext E1
  have hz1 := E1.size
  refine lx_split (fun hf => ?_) (fun hf => ?_)
  ·
   replace hf := of_decide_eq_true hf
   refine lx_nil ?_
   refine wk_cond_t rfl ?_
   refine wk_ret ?_
   refine ret0 Tryz.results95 F4 ?_
   exact out_full (((tw1L_1.ext Eb1).fr Es1 (fun k hk h => nb1 k hk h)).ext E1) tg1L_1 hc hlw hup hf hi
  ·
   have hf2 := of_decide_eq_false hf
   refine lx_nil ?_
   refine wk_cond_f rfl ?_
   refine wk_skip ?_
   refine wk_seq ?_
   refine wk_seq ?_
   refine wk_region ?_
   refine lx_value (want rfl) (mv_int rfl) ?_
   refine lx_value (want rfl) (rn_gtr rfl rfl) ?_
   refine lx_dec (fun hp => ?_) (fun hp => ?_)
   ·
    refine lx_nil ?_
    refine wk_cond_t rfl ?_
    refine wk_region ?_
    refine lx_value (want rfl) (mv_pointer (A1.at 0 rfl rfl)) ?_
    refine lx_value (want rfl) (rn_nilCheck rfl) ?_
    refine lx_value (want rfl) (rn_fieldAddr fa_149_0 rfl) ?_
    refine lx_call (want rfl) (ent_func cf_143 (argsC (t_pointer rfl) (argsC (t_string rfl) args0))) (writestr_ct TT1_1 b bq sk A.length ck ⟨#[44, 32]⟩ (by have : (⟨#[44, 32]⟩ : ByteArray).size = 2 := rfl; omega) w4 (((tw1L_1.ext Eb1).fr Es1 (fun k hk h => nb1 k hk h)).ext E1)) ?_
    rintro _ w5 E2 ⟨Z2, hM2, hi2⟩
    have F5 := F4.new' E2 (fun k h => tg1L_1 k h)
    have hz2 := E2.size
    have tg1 : ∀ k, zz zn Z2 k → Z k ∨ w0.heap.size ≤ k := fun k hk => (hi2 k hk).elim (tg1L_1 k) (fun h => .inr (by omega))
    have tn1_1 : ∀ k, zz zn Z2 k → k ≠ b1 := fun k hk => (hi2 k hk).elim (nb1 k) (fun h => by have := (Bs1).lt; omega)
    refine lx_nil ?_
    refine wk_region ?_
    refine lx_value (want rfl) (mv_pointer (A1.at 0 rfl rfl)) ?_
    refine lx_value (want rfl) (rn_loadBlk ag_36 sz_36 rfl ((Bs1.ext E1).fr E2 (fun h => nb1 _ h rfl)) rfl rfl) ?_
    refine lx_value (want rfl) (mv_int (A1.at 2 rfl rfl)) ?_
    refine lx_call (want rfl) (ent_func cf_144 (argsC (t_pointer rfl) (argsC (t_agg rfl) (argsC (t_int rfl) args0)))) (hval Z2 (bq ++ [44, 32]) vq w5 (fun k hk h => (tg1 k h).elim (hGZ k hk) (fun h9 => by have := hGl k hk; omega)) (fun k hk => Nat.lt_of_lt_of_le (hGl k hk) F5.size) (hOv vq hvm) (by rw [List.length_append]; have : [(44 : UInt8), 32].length = 2 := rfl; omega) hM2 (hk.fr (vv_stab _) F5 hGZ) (hS.st F5 hGZ hTw)) ?_
    rintro _ w6 E3 ⟨bs2, Z3, hq2, hM3, hi3⟩
    have F6 := F5.new' E3 (fun k h => tg1 k h)
    have hz3 := E3.size
    have tg2 : ∀ k, zz zn Z3 k → Z k ∨ w0.heap.size ≤ k := fun k hk => (hi3 k hk).elim (tg1 k) (fun h => .inr (by omega))
    have tn2_1 : ∀ k, zz zn Z3 k → k ≠ b1 := fun k hk => (hi3 k hk).elim (tn1_1 k) (fun h => by have := (Bs1).lt; omega)
    refine lx_nil ?_
    refine wk_region ?_
    refine lx_value (want rfl) (rn_add hs1_10 rfl (by omega)) ?_
    refine lx_value (want rfl) (mv_int rfl) ?_
    refine lx_nil ?_
    exact ⟨rfl, (((((((((((((((((((((A1.up rfl _).up rfl _).up rfl _).up rfl _).up rfl _).up rfl _).none _).up rfl _).up rfl _).up rfl _).up rfl _).up rfl _).up rfl _).up rfl _).up rfl _).up rfl _).up rfl _).up rfl _).up rfl _).up rfl _).up rfl _), Fr.between F0 F6 (by omega), _, (by omega), i + 1, bs2, Z3, rfl, rfl, hM3, tg2, by have := (List.getElem?_eq_some_iff.1 hv).1; omega, (cut_step hv hc (sep := [44, 32]) (if_pos (by omega)).symm hq2.1), by have := hq2.2.1; rw [List.length_append] at this; omega, by have h := hq2.2.2; rw [List.length_append] at h; have : [(44 : UInt8), 32].length = 2 := rfl; omega⟩
   ·
    refine lx_nil ?_
    refine wk_cond_f rfl ?_
    refine wk_skip ?_
    refine wk_region ?_
    refine lx_value (want rfl) (mv_pointer (A1.at 0 rfl rfl)) ?_
    refine lx_value (want rfl) (rn_loadBlk ag_36 sz_36 rfl (Bs1.ext E1) rfl rfl) ?_
    refine lx_value (want rfl) (mv_int (A1.at 2 rfl rfl)) ?_
    refine lx_call (want rfl) (ent_func cf_144 (argsC (t_pointer rfl) (argsC (t_agg rfl) (argsC (t_int rfl) args0)))) (hval TT1_1 bq vq w4 (fun k hk h => (tg1L_1 k h).elim (hGZ k hk) (fun h9 => by have := hGl k hk; omega)) (fun k hk => Nat.lt_of_lt_of_le (hGl k hk) F4.size) (hOv vq hvm) (by omega) (((tw1L_1.ext Eb1).fr Es1 (fun k hk h => nb1 k hk h)).ext E1) (hk.fr (vv_stab _) F4 hGZ) (hS.st F4 hGZ hTw)) ?_
    rintro _ w5 E4 ⟨bs2, Z3, hq2, hM3, hi3⟩
    have F7 := F4.new' E4 (fun k h => tg1L_1 k h)
    have hz4 := E4.size
    have tg3 : ∀ k, zz zn Z3 k → Z k ∨ w0.heap.size ≤ k := fun k hk => (hi3 k hk).elim (tg1L_1 k) (fun h => .inr (by omega))
    have tn3_1 : ∀ k, zz zn Z3 k → k ≠ b1 := fun k hk => (hi3 k hk).elim (nb1 k) (fun h => by have := (Bs1).lt; omega)
    refine lx_nil ?_
    refine wk_region ?_
    refine lx_value (want rfl) (rn_add hs1_10 rfl (by omega)) ?_
    refine lx_value (want rfl) (mv_int rfl) ?_
    refine lx_nil ?_
    exact ⟨rfl, (((((((((((((((((A1.up rfl _).up rfl _).up rfl _).up rfl _).up rfl _).up rfl _).none _).up rfl _).up rfl _).up rfl _).up rfl _).up rfl _).up rfl _).up rfl _).up rfl _).up rfl _).up rfl _), Fr.between F0 F7 (by omega), _, (by omega), i + 1, bs2, Z3, rfl, rfl, hM3, tg3, by have := (List.getElem?_eq_some_iff.1 hv).1; omega, (cut_step hv hc (sep := []) (if_neg (by omega)).symm (by rw [List.append_nil]; exact hq2.1)), by have := hq2.2.1; omega, by have := hq2.2.2; omega⟩
 ·
  refine lx_nil ?_
  refine wk_seq ?_
  refine wk_cond_f rfl ?_
  refine wk_exit ?_
  (try simp only [thenK, blockK, if_true])
  refine retN ?_
  refine ret0 Tryz.results95 F1 ?_
  exact out_end tw1L_1 tg1L_1 hc hlw hup hi hlt

theorem showall_ct {A : List (List Vl)} {ck : Nat} {sk : Option Addr} {G : Nat → Prop} {Ok : Vl → Prop} {T : World → Prop} (hS : ShowOk Tryz.prog A Ok G T) (b : Nat) : ∀ d, d ≤ 12 → ValsP Tryz.prog A b sk ck G Ok T d ∧ ValP Tryz.prog A b sk ck G Ok T d := by
 intro d
 induction d with
 | zero =>
  intro hd
  have hv : ValP Tryz.prog A b sk ck G Ok T 0 := fun Z bs v w h1 h2 h3 h4 h5 h6 h7 => showvalue_ct Z b bs A ck sk G Ok T hS 0 hd v h1 h3 h4 (fun dq e => by omega) w h2 h5 h6 h7
  exact ⟨fun Z bs l s c F w h1 h2 h3 h4 h5 h6 h7 h8 h9 h10 h11 => showvalues_ct Z b bs A ck sk G Ok T hS 0 hd l s c F h1 h3 h5 h6 h7 hv w h2 h4 h8 h9 h10 h11, hv⟩
 | succ d ih =>
  intro hd
  have hv : ValP Tryz.prog A b sk ck G Ok T (d + 1) := fun Z bs v w h1 h2 h3 h4 h5 h6 h7 => showvalue_ct Z b bs A ck sk G Ok T hS (d + 1) hd v h1 h3 h4 (fun dq e => (Nat.succ.inj e) ▸ (ih (by omega)).1) w h2 h5 h6 h7
  exact ⟨fun Z bs l s c F w h1 h2 h3 h4 h5 h6 h7 h8 h9 h10 h11 => showvalues_ct Z b bs A ck sk G Ok T hS (d + 1) hd l s c F h1 h3 h5 h6 h7 hv w h2 h4 h8 h9 h10 h11, hv⟩

theorem isstruct_ct (x : St) (n : Nat) (sc : Option Addr) (cc : Nat) (sw : Option Addr) (cw : Nat) (F : Nat → Prop) (hn : n ≤ 1048576) (hb : x.1.length ≤ 1048576 ∧ x.2.length ≤ 1048576) (w0 : World) (hv : VlS F w0 sc x.1) (hr : RdS F w0 sw x.2) :
  CT Tryz.prog 110 [.agg #[.slice sc x.1.length cc, .slice sw x.2.length cw], .int .i64 n] w0 no (fun v _ => v = .bool (stB n x)) := by
 have F0 := Fr.refl no w0
 refine ct_body Tryz.func110 rfl Tryz.ntmps110 (Nat.le_of_ble_eq_true rfl) ?_
 refine wk_seq ?_
 refine wk_region ?_
 refine lx_new (want rfl) (rn_box (t_agg rfl)) ?_
 intro b1 w1 hb1 Eb1 B1 hlb1
 have F1 := F0.ext Eb1
 have hzb1 := Eb1.size
 refine lx_new (want rfl) (rn_box (t_int rfl)) ?_
 intro b2 w2 hb2 Eb2 B2 hlb2
 have F2 := F1.ext Eb2
 have hzb2 := Eb2.size
 refine lx_value (want rfl) (as_bool rfl) ?_
 refine lx_nil ?_
 refine wk_seq ?_
 refine wk_seq ?_
 refine wk_region ?_
 refine lx_value (want rfl) (rn_fieldAddr fa_65_0 rfl) ?_
 refine lx_value (want rfl) (rn_load1Blk ag_30 rfl (B1.ext Eb2) rfl) ?_
 refine lx_value (want rfl) (rn_len Tryz.underlying30 rfl) ?_
 refine lx_value (want rfl) (rn_gtr rfl rfl) ?_
 refine lx_dec (fun h100 => ?_) (fun h100 => ?_)
 ·
  refine lx_value (want rfl) (mv_bool rfl) ?_
  refine lx_skip (want_if (j := 4) (d := 9) (x := false) (y := true) rfl rfl (by decide) rfl) ?_
  refine lx_skip (want_if (j := 4) (d := 9) (x := false) (y := true) rfl rfl (by decide) rfl) ?_
  refine lx_skip (want_if (j := 4) (d := 9) (x := false) (y := true) rfl rfl (by decide) rfl) ?_
  refine lx_skip (want_if (j := 4) (d := 9) (x := false) (y := true) rfl rfl (by decide) rfl) ?_
  refine lx_value (want rfl) (pick_t rfl rfl) ?_
  refine lx_nil ?_
  refine wk_cond_t rfl ?_
  refine wk_seq ?_
  refine wk_region ?_
  refine lx_value (want rfl) (as_bool rfl) ?_
  refine lx_nil ?_
  refine wk_ret ?_
  refine retR1 Tryz.results110 (.tmp (t_bool rfl)) F2 ?_
  exact ist_len h100
 ·
  refine lx_value (want rfl) (mv_bool rfl) ?_
  refine lx_value (want_if (j := 4) (d := 9) (x := false) (y := false) rfl rfl (by decide) rfl) (rn_fieldAddr fa_65_0 rfl) ?_
  refine lx_value (want_if (j := 4) (d := 9) (x := false) (y := false) rfl rfl (by decide) rfl) (rn_load1Blk ag_30 rfl (B1.ext Eb2) rfl) ?_
  refine lx_value (want_if (j := 4) (d := 9) (x := false) (y := false) rfl rfl (by decide) rfl) (rn_makeFunc (argsC (t_pointer rfl) args0)) ?_
  refine lx_call (want_if (j := 4) (d := 9) (x := false) (y := false) rfl rfl (by decide) rfl) (ent_func cf_73 (argsC (t_slice rfl) (argsC (t_func rfl) args0))) (containsv_ct x.1 _ _ _ 149 [.pointer (some ⟨b2, 0, none⟩)] (fun v => !isVal v n) cf_149 w2 (hv.fr (vl_stab _) F2 (fun _ _ h => h)) hb.1 (fun z w hz E => isstruct1_ct z n b2 hn w (B2.ext E))) ?_
  rintro _ w3 E1 rfl
  have F3 := F2.ext E1
  have hz1 := E1.size
  refine lx_split (fun hany => ?_) (fun hany => ?_)
  ·
   refine lx_value (want rfl) (pick_f rfl rfl) ?_
   refine lx_nil ?_
   refine wk_cond_t rfl ?_
   refine wk_seq ?_
   refine wk_region ?_
   refine lx_value (want rfl) (as_bool rfl) ?_
   refine lx_nil ?_
   refine wk_ret ?_
   refine retR1 Tryz.results110 (.tmp (t_bool rfl)) F3 ?_
   exact ist_val hany
  ·
   refine lx_value (want rfl) (pick_f rfl rfl) ?_
   refine lx_nil ?_
   refine wk_cond_f rfl ?_
   refine wk_skip ?_
   refine wk_seq ?_
   refine wk_region ?_
   refine lx_value (want rfl) (rn_fieldAddr fa_65_1 rfl) ?_
   refine lx_value (want rfl) (rn_load1Blk ag_63 rfl ((B1.ext Eb2).ext E1) rfl) ?_
   refine lx_value (want rfl) (rn_makeFunc (argsC (t_pointer rfl) args0)) ?_
   refine lx_call (want rfl) (ent_func cf_150 (argsC (t_slice rfl) (argsC (t_func rfl) args0))) (containsr_ct x.2 _ _ _ 151 [.pointer (some ⟨b1, 0, none⟩)] (fun r => !waitB x.1 r) cf_151 w3 (hr.fr (rd_stab _) F3 (fun _ _ h => h)) hb.2 (fun z w hz E => isstruct2_ct z x.1 b1 sc cc sw _ cw _ hb.1 w (((B1.ext Eb2).ext E1).ext E) ((hv.fr (vl_stab _) F3 (fun _ _ h => h)).ext (vl_stab _) E))) ?_
   rintro _ w4 E2 rfl
   have F4 := F3.ext E2
   have hz2 := E2.size
   refine lx_value (want rfl) (rn_not rfl) ?_
   refine lx_value (want rfl) (as_bool rfl) ?_
   refine lx_nil ?_
   refine wk_ret ?_
   refine retR1 Tryz.results110 (.tmp (t_bool rfl)) F4 ?_
   exact ist_end h100 hany

theorem pdo1_ct (z : Vl) (n : Nat) (hn : n ≤ 1048576) (bp b : Nat) (sM : Option Addr) (cM : Nat) (wt : Int) (stM : Option Addr) (nt ctM : Nat) (w0 : World) (BP : Blk w0 bp [.pointer (some ⟨b, 0, none⟩)] 108) (BM : Blk w0 b [.slice sM n cM, .int .i64 wt, .slice stM nt ctM] 113) :
  CT Tryz.prog 113 [vlV z, .pointer (some ⟨bp, 0, none⟩)] w0 no (fun v _ => v = .bool (!(decide (z.1 ≠ 0) && isVal z n))) := by
 have F0 := Fr.refl no w0
 refine ct_body Tryz.func113 rfl Tryz.ntmps113 (Nat.le_of_ble_eq_true rfl) ?_
 refine wk_seq ?_
 refine wk_region ?_
 refine lx_new (want rfl) (rn_box (t_agg rfl)) ?_
 intro b21 w1 hb21 Eb21 B21 hlb21
 have F1 := F0.ext Eb21
 have hzb21 := Eb21.size
 refine lx_value (want rfl) (as_bool rfl) ?_
 refine lx_nil ?_
 refine wk_seq ?_
 refine wk_mix 6 (fun _ => .none) (by kernel_rfl) (by kernel_rfl) (fun kS G hk => by cases hk) (fun kS s y G hk => by cases hk) ?_
 simp only [List.take_succ_cons, List.take_zero, List.take_nil, List.drop_succ_cons, List.drop_zero, List.drop_nil]
 refine mx_calm rfl (want rfl) (fun u1 eu1 fu1 => rn_loadBlk ag_36 sz_36 rfl (B21.ext ((ext_drawn _).trans' eu1)) rfl rfl) ?_
 refine mx_calm rfl (want rfl) (fun u2 eu2 fu2 => rn_load1Blk ag_108 rfl ((BP.ext Eb21).ext ((ext_drawn _).trans' eu2)) rfl) ?_
 refine mx_calm rfl (want rfl) (fun u3 eu3 fu3 => rn_nilCheck rfl) ?_
 refine mx_calm rfl (want rfl) (fun u4 eu4 fu4 => rn_fieldAddr fa_113_0 rfl) ?_
 refine mx_calm rfl (want rfl) (fun u5 eu5 fu5 => rn_load1Blk ag_22 rfl ((BM.ext Eb21).ext ((ext_drawn _).trans' eu5)) rfl) ?_
 refine mx_calm rfl (want rfl) (fun u6 eu6 fu6 => rn_len Tryz.underlying22 rfl) ?_
 refine mx_nil (fun w2 E1' H1 HS => ?_)
 have E1 := (ext_drawn _).trans' E1'
 have F2 := F1.ext E1
 have hz1 := E1.size
 refine lx_call (want rfl) (ent_func cf_114 (argsC (t_agg rfl) (argsC (t_int rfl) args0))) (isthere_ct z.1 z.2 n hn w2) ?_
 rintro _ w3 E2 rfl
 have F3 := F2.ext E2
 have hz2 := E2.size
 refine lx_value (want rfl) (rn_not rfl) ?_
 refine lx_value (want rfl) (as_bool rfl) ?_
 refine lx_nil ?_
 refine wk_ret ?_
 refine retR1 Tryz.results113 (.tmp (t_bool rfl)) F3 ?_
 exact rfl

theorem op3_ct (a b : Int) (ha : -1000000000 ≤ a ∧ a ≤ 1000000000) (hb : -1000000000 ≤ b ∧ b ≤ 1000000000) (w0 : World) :
  CT Tryz.prog 128 [.int .i64 a, .int .i64 b] w0 no (fun v _ => v = vlV (workV 3 a b)) := by
 have F0 := Fr.refl no w0
 refine ct_body Tryz.func128 rfl Tryz.ntmps128 (Nat.le_of_ble_eq_true rfl) ?_
 refine wk_seq ?_
 refine wk_region ?_
 refine lx_new (want rfl) (rn_box (t_int rfl)) ?_
 intro b1 w1 hb1 Eb1 B1 hlb1
 have F1 := F0.ext Eb1
 have hzb1 := Eb1.size
 refine lx_new (want rfl) (rn_box (t_int rfl)) ?_
 intro b2 w2 hb2 Eb2 B2 hlb2
 have F2 := F1.ext Eb2
 have hzb2 := Eb2.size
 refine lx_new (want rfl) (rn_alloc ze_36) ?_
 intro b3 w3 hb3 Eb3 B3 hlb3
 have F3 := F2.ext Eb3
 have hzb3 := Eb3.size
 refine lx_nil ?_
 refine wk_seq ?_
 refine wk_region ?_
 refine lx_value (want rfl) (rn_load1Blk ag_3 rfl (B2.ext Eb3) rfl) ?_
 refine lx_value (want rfl) (rn_makeFunc (argsC (t_pointer rfl) (argsC (t_pointer rfl) args0))) ?_
 refine lx_call (want rfl) (ent_func cf_129 (argsC (t_int rfl) (argsC (t_func rfl) args0))) (divided_ct b (a.tdiv b) 130 [.pointer (some ⟨b1, 0, none⟩), .pointer (some ⟨b2, 0, none⟩)] cf_130 w3 (fun hne w E => op3c_ct a b b1 b2 ha hne w (((B1.ext Eb2).ext Eb3).ext E) ((B2.ext Eb3).ext E))) ?_
 rintro _ w4 E1 rfl
 have F4 := F3.ext E1
 have hz1 := E1.size
 refine lx_set (want rfl) sz_36 rfl (t_agg rfl) rfl rfl rfl (B3.ext E1) (Nat.le_of_ble_eq_true rfl) ?_
 intro w5 Es1 Bs1
 have F5 := F4.set Es1 (by omega)
 have hzs1 := Es1.size
 refine lx_nil ?_
 refine wk_ret ?_
 refine retR1 Tryz.results128 (.cell rfl (run_loadVar_blk ag_36 sz_36 Bs1 rfl rfl)) F5 ?_
 exact rfl

theorem op4_ct (a b : Int) (ha : -1000000000 ≤ a ∧ a ≤ 1000000000) (hb : -1000000000 ≤ b ∧ b ≤ 1000000000) (w0 : World) :
  CT Tryz.prog 131 [.int .i64 a, .int .i64 b] w0 no (fun v _ => v = vlV (workV 4 a b)) := by
 have F0 := Fr.refl no w0
 refine ct_body Tryz.func131 rfl Tryz.ntmps131 (Nat.le_of_ble_eq_true rfl) ?_
 refine wk_seq ?_
 refine wk_region ?_
 refine lx_new (want rfl) (rn_box (t_int rfl)) ?_
 intro b1 w1 hb1 Eb1 B1 hlb1
 have F1 := F0.ext Eb1
 have hzb1 := Eb1.size
 refine lx_new (want rfl) (rn_box (t_int rfl)) ?_
 intro b2 w2 hb2 Eb2 B2 hlb2
 have F2 := F1.ext Eb2
 have hzb2 := Eb2.size
 refine lx_new (want rfl) (rn_alloc ze_36) ?_
 intro b3 w3 hb3 Eb3 B3 hlb3
 have F3 := F2.ext Eb3
 have hzb3 := Eb3.size
 refine lx_nil ?_
 refine wk_seq ?_
 refine wk_region ?_
 refine lx_value (want rfl) (rn_load1Blk ag_3 rfl (B2.ext Eb3) rfl) ?_
 refine lx_value (want rfl) (rn_makeFunc (argsC (t_pointer rfl) (argsC (t_pointer rfl) args0))) ?_
 refine lx_call (want rfl) (ent_func cf_129 (argsC (t_int rfl) (argsC (t_func rfl) args0))) (divided_ct b (a.tmod b) 132 [.pointer (some ⟨b1, 0, none⟩), .pointer (some ⟨b2, 0, none⟩)] cf_132 w3 (fun hne w E => op4c_ct a b b1 b2 ha hne w (((B1.ext Eb2).ext Eb3).ext E) ((B2.ext Eb3).ext E))) ?_
 rintro _ w4 E1 rfl
 have F4 := F3.ext E1
 have hz1 := E1.size
 refine lx_set (want rfl) sz_36 rfl (t_agg rfl) rfl rfl rfl (B3.ext E1) (Nat.le_of_ble_eq_true rfl) ?_
 intro w5 Es1 Bs1
 have F5 := F4.set Es1 (by omega)
 have hzs1 := Es1.size
 refine lx_nil ?_
 refine wk_ret ?_
 refine retR1 Tryz.results131 (.cell rfl (run_loadVar_blk ag_36 sz_36 Bs1 rfl rfl)) F5 ?_
 exact rfl

end Go.Proofs.YtnhgfmbmfjmonaaGreatDoor

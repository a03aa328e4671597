/- What functions of the cube compute: open. -/
import Derived.Test.YtlfclnkoimfhmaaDoorFacts
import Derived.Test.YtlfclnkoimfhmaaDoorPre
import Derived.Test.YtlfclnkoimfhmaaDoorWalk1
import Derived.Test.YtlfclnkoimfhmaaDoorWalk12
import Derived.Test.YtlfclnkoimfhmaaDoorWalk2
import Derived.Test.YtlfclnkoimfhmaaDoorWalk3
import Derived.Test.YtlfclnkoimfhmaaDoorWalk4
set_option linter.unusedVariables false
set_option linter.unusedSimpArgs false
namespace Go.Proofs.YtlfclnkoimfhmaaDoor
open Go Go.RowKit Go.Mix Go.Eng
set_option maxHeartbeats 2000000 in
set_option maxRecDepth 100000 in
theorem open_ct (d r : Int) (L : List (List Pk)) (s : Option Addr) (c : Nat) (G : Nat → Prop) (hB : Bd L) (w0 : World) (hL : BufS G w0 s L) (hT : Tb w0 1) :
    CT Tryd.prog 51 [.agg #[.int .i64 d, .int .i64 r, .slice s L.length c]] w0 no (fun v w => OpenQ w0.heap.size d r L v w) := by
  have hT1 := hT.lt
  have hBl := hB.1
  have F0 := Fr.refl no w0
  refine ct_bodyM Tryd.func51 rfl Tryd.ntmps51 (Nat.le_of_ble_eq_true rfl) ?_
  refine wk_seq ?_
  refine wk_region ?_
  refine lx_new (want rfl) (rn_box (t_agg rfl)) ?_
  intro b21 w1 hb21 Eb21 B21 hlb21
  have F1 := F0.ext Eb21
  have hzb21 := Eb21.size
  refine lx_new (want rfl) (rn_alloc ze_84) ?_
  intro b22 w2 hb22 Eb22 B22 hlb22
  have F2 := F1.ext Eb22
  have hzb22 := Eb22.size
  refine lx_new (want rfl) (rn_alloc ze_25) ?_
  intro b23 w3 hb23 Eb23 B23 hlb23
  have F3 := F2.ext Eb23
  have hzb23 := Eb23.size
  refine lx_nil ?_
  refine wk_seq ?_
  refine wk_region ?_
  refine lx_value (want rfl) (rn_fieldAddr fa_24_0 rfl) ?_
  refine lx_value (want rfl) (rn_load1Blk ag_3 rfl ((B21.ext Eb22).ext Eb23) rfl) ?_
  refine lx_value (want rfl) (rn_fieldAddr fa_24_1 rfl) ?_
  refine lx_value (want rfl) (rn_load1Blk ag_3 rfl ((B21.ext Eb22).ext Eb23) rfl) ?_
  refine lx_value (want rfl) (rn_build2 (t_int rfl) (t_int rfl) (fun w => bd_24_0_1 _ _ w)) ?_
  refine lx_value (want rfl) (rn_build1 (t_agg rfl) (fun w => bd_76_0 _ _ _ _ _ w)) ?_
  refine lx_new (want rfl) (rn_box (t_agg rfl)) ?_
  intro b24 w4 hb24 Eb24 B24 hlb24
  have F4 := F3.ext Eb24
  have hzb24 := Eb24.size
  refine lx_set (want rfl) sz_84 rfl (t_pointer rfl) rfl rfl rfl ((B22.ext Eb23).ext Eb24) (Nat.le_of_ble_eq_true rfl) ?_
  intro w5 Es1 Bs1
  have F5 := F4.set Es1 (by omega)
  have hzs1 := Es1.size
  refine lx_nil ?_
  refine wk_seq ?_
  refine wk_block ?_
  refine wk_seq ?_
  refine wk_seq ?_
  refine wk_region ?_
  refine lx_value (want rfl) (rn_fieldAddr fa_24_0 rfl) ?_
  refine lx_value (want rfl) (rn_load1Blk ag_3 rfl ((((B21.ext Eb22).ext Eb23).ext Eb24).ne Es1 (by omega)) rfl) ?_
  refine lx_newS (want rfl) (rn_bslice (xs := [.tmp 18]) Tryd.underlying28 sz_3 ze_3 rfl (argsC (t_int rfl) args0) (CL.cons rfl rfl CL.nil) rfl (Nat.le_of_ble_eq_true rfl)) ?_
  intro b25 w6 hb25 Eb25 B25 hlb25
  have F6 := F5.ext Eb25
  have hzb25 := Eb25.size
  refine lx_call (want rfl) (ent_func cf_47 (argsC (t_int rfl) (argsC (t_int rfl) (argsC (t_slice rfl) args0)))) (within_ct 0 3 [d] _ _ _ w6 (blk_ints [d] B25) (by simp)) ?_
  rintro _ w7 E1 rfl
  have F7 := F6.ext E1
  have hz1 := E1.size
  refine lx_split (fun h20 => ?_) (fun h20 => ?_)
  ·
    obtain ⟨hd0, hd3⟩ := in_one h20
    obtain ⟨dim, rfl⟩ : ∃ k : Nat, d = (k : Int) := ⟨d.toNat, by omega⟩
    have hd : dim ≤ 3 := by omega
    have h32 := prod_le hd
    have h28 := pow2_le dim (Nat.le_refl _) hd
    refine lx_value (want rfl) (rn_not rfl) ?_
    refine lx_value (want rfl) (as_bool rfl) ?_
    refine lx_nil ?_
    refine wk_cond_f rfl ?_
    refine wk_region ?_
    refine lx_value (want rfl) (rn_fieldAddr fa_24_1 rfl) ?_
    refine lx_value (want rfl) (rn_load1Blk ag_3 rfl ((((((B21.ext Eb22).ext Eb23).ext Eb24).ne Es1 (by omega)).ext Eb25).ext E1) rfl) ?_
    refine lx_newS (want rfl) (rn_bslice (xs := [.tmp 23]) Tryd.underlying28 sz_3 ze_3 rfl (argsC (t_int rfl) args0) (CL.cons rfl rfl CL.nil) rfl (Nat.le_of_ble_eq_true rfl)) ?_
    intro b26 w8 hb26 Eb26 B26 hlb26
    have F8 := F7.ext Eb26
    have hzb26 := Eb26.size
    refine lx_call (want rfl) (ent_func cf_47 (argsC (t_int rfl) (argsC (t_int rfl) (argsC (t_slice rfl) args0)))) (within_ct 1 8 [r] _ _ _ w8 (blk_ints [r] B26) (by simp)) ?_
    rintro _ w9 E2 rfl
    have F9 := F8.ext E2
    have hz2 := E2.size
    refine lx_split (fun h25 => ?_) (fun h25 => ?_)
    ·
      have hr := in_one h25
      refine lx_value (want rfl) (rn_not rfl) ?_
      refine lx_value (want rfl) (as_bool rfl) ?_
      refine lx_nil ?_
      refine wk_cond_f rfl ?_
      refine wk_seq ?_
      refine wk_mix 11 (fun kS => match kS with | 6 => .val (.int .i64 ((2 ^ dim : Nat) : Int)) | _ => .none) (by kernel_rfl) (by kernel_rfl) (by intro kS G hk; (try dsimp only at hk); (split at hk) <;> first | (cases hk; done) | (injection hk with hk; subst hk; exact ⟨by intro j hkj I v w w' hR hG; first | exact hG, fun ⟨_, _, _, _, hs⟩ => by (try dsimp only at hs); split at hs <;> cases hs⟩)) (by intro kS s y G hk; (try dsimp only at hk); split at hk <;> cases hk) ?_
      simp only [List.take_succ_cons, List.take_zero, List.take_nil, List.drop_succ_cons, List.drop_zero, List.drop_nil]
      refine mx_calm rfl (want rfl) (fun u1 eu1 fu1 => rn_fieldAddr fa_24_2 rfl) ?_
      refine mx_calm rfl (want rfl) (fun u2 eu2 fu2 => rn_load1Blk ag_22 rfl (((((((((B21.ext Eb22).ext Eb23).ext Eb24).ne Es1 (by omega)).ext Eb25).ext E1).ext Eb26).ext E2).ext ((ext_drawn _).trans' eu2)) rfl) ?_
      refine mx_calm rfl (want rfl) (fun u3 eu3 fu3 => rn_len Tryd.underlying22 rfl) ?_
      refine mx_calm rfl (want rfl) (fun u4 eu4 fu4 => rn_load1Blk ag_84 rfl (((((Bs1.ext Eb25).ext E1).ext Eb26).ext E2).ext ((ext_drawn _).trans' eu4)) rfl) ?_
      refine mx_calm rfl (want rfl) (fun u5 eu5 fu5 => rn_nilCheck rfl) ?_
      refine mx_calm rfl (want rfl) (fun u6 eu6 fu6 => rn_loadBlk ag_76 sz_76 rfl ((((((B24.ne Es1 (by omega)).ext Eb25).ext E1).ext Eb26).ext E2).ext ((ext_drawn _).trans' eu6)) rfl rfl) ?_
      refine mx_val rfl (want rfl) (fun u7 eu7 fu7 => do_call (ent_func cf_74 (argsC (t_agg rfl) args0)) (size_ct _ _ _ _ _ hd u7) (fun _ _ E h => ⟨E, h⟩)) ?_
      refine mx_calm rfl (want rfl) (fun u8 eu8 fu8 => rn_fieldAddr fa_24_0 rfl) ?_
      refine mx_calm rfl (want rfl) (fun u9 eu9 fu9 => rn_load1Blk ag_3 rfl (((((((((B21.ext Eb22).ext Eb23).ext Eb24).ne Es1 (by omega)).ext Eb25).ext E1).ext Eb26).ext E2).ext ((ext_drawn _).trans' eu9)) rfl) ?_
      refine mx_calm rfl (want rfl) (fun u10 eu10 fu10 => rn_addN rfl (n := 1) rfl (by omega)) ?_
      refine mx_calm rfl (want rfl) (fun u11 eu11 fu11 => rn_mulN rfl rfl (by omega)) ?_
      refine mx_nil (fun w10 E3' H1 HS => ?_)
      have E3 := (ext_drawn _).trans' E3'
      have F10 := F9.ext E3
      have hz3 := E3.size
      refine lx_value (want rfl) (rn_neq rfl rfl) ?_
      refine lx_dec (fun h39 => ?_) (fun h39 => ?_)
      ·
        refine lx_value (want rfl) (as_bool rfl) ?_
        refine lx_nil ?_
        refine wk_cond_t rfl ?_
        refine wk_seq ?_
        refine wk_region ?_
        refine lx_set (want rfl) sz_84 rfl (t_pointer rfl) rfl rfl rfl (((((Bs1.ext Eb25).ext E1).ext Eb26).ext E2).ext E3) (Nat.le_of_ble_eq_true rfl) ?_
        intro w11 Es2 Bs2
        have F11 := F10.set Es2 (by omega)
        have hzs2 := Es2.size
        refine lx_set (want rfl) sz_25 rfl (t_int rfl) rfl rfl rfl ((((((((B23.ext Eb24).ne Es1 (by omega)).ext Eb25).ext E1).ext Eb26).ext E2).ext E3).ne Es2 (by omega)) (Nat.le_of_ble_eq_true rfl) ?_
        intro w12 Es3 Bs3
        have F12 := F11.set Es3 (by omega)
        have hzs3 := Es3.size
        refine lx_nil ?_
        refine wk_ret ?_
        refine retM0 ?_
        refine retR2 Tryd.results51 (.cell rfl (run_loadVar_blk1 ag_84 (Bs2.ne Es3 (by omega)) rfl)) (.cell rfl (run_loadVar_blk1 ag_25 Bs3 rfl)) F12 ?_
        exact open_form hd hr (form_len (by omega))
      ·
        have hll : L.length = 2 ^ dim * (dim + 1) := by omega
        refine lx_value (want rfl) (as_bool rfl) ?_
        refine lx_nil ?_
        refine wk_cond_f rfl ?_
        refine wk_skip ?_
        refine wk_seq ?_
        refine wk_seq ?_
        refine wk_region ?_
        refine lx_value (want rfl) (rn_fieldAddr fa_24_2 rfl) ?_
        refine lx_value (want rfl) (rn_load1Blk ag_22 rfl (((((((((B21.ext Eb22).ext Eb23).ext Eb24).ne Es1 (by omega)).ext Eb25).ext E1).ext Eb26).ext E2).ext E3) rfl) ?_
        refine lx_value (want rfl) (rn_len Tryd.underlying22 rfl) ?_
        refine lx_value (want rfl) (mv_int rfl) ?_
        refine lx_nil ?_
        refine wk_block ?_
        refine wk_loopA [5, 43, 44, 45, 46, 47, 48, 49, 50, 51, 52, 53, 54, 55, 56, 57, 58, 59, 60] (fun j => no j ∨ w0.heap.size ≤ j) (fun nM ρ w => ∃ (i : Nat) (st1_1 : Option Addr) (ct1_1 : Nat) (TT1_1 : List (TE Pk)), nM = L.length - i ∧ ρ 43 = .int .i64 i ∧ Tb w 1 ∧ Blk w b21 (cellsOf B21) 24 ∧ Blk w b22 (cellsOf Bs1) 84 ∧ Blk w b23 (cellsOf B23) 25 ∧ Blk w b24 [.int .i64 dim, .int .i64 r, .slice st1_1 TT1_1.length ct1_1] 76 ∧ Blk w b25 (cellsOf B25) 3 ∧ Blk w b26 (cellsOf B26) 3 ∧ Tab w 49 41 3 pkC st1_1 ct1_1 TT1_1 ∧ (∀ k, tb st1_1 TT1_1 k → w0.heap.size ≤ k) ∧ (∀ k, tb st1_1 TT1_1 k → k ≠ 1) ∧ (∀ k, tb st1_1 TT1_1 k → k ≠ b21) ∧ (∀ k, tb st1_1 TT1_1 k → k ≠ b22) ∧ (∀ k, tb st1_1 TT1_1 k → k ≠ b23) ∧ (∀ k, tb st1_1 TT1_1 k → k ≠ b24) ∧ (∀ k, tb st1_1 TT1_1 k → k ≠ b25) ∧ (∀ k, tb st1_1 TT1_1 k → k ≠ b26) ∧ (i ≤ L.length) ∧ (TT1_1.map (·.2.2) = L.take i)) _ ⟨0, none, 0, ([] : List (TE Pk)), rfl, rfl, ((((((((((hT.ext Eb21).ext Eb22).ext Eb23).ext Eb24).ne Es1 (by omega)).ext Eb25).ext E1).ext Eb26).ext E2).ext E3), (((((((((B21.ext Eb22).ext Eb23).ext Eb24).ne Es1 (by omega)).ext Eb25).ext E1).ext Eb26).ext E2).ext E3), (((((Bs1.ext Eb25).ext E1).ext Eb26).ext E2).ext E3), (((((((B23.ext Eb24).ne Es1 (by omega)).ext Eb25).ext E1).ext Eb26).ext E2).ext E3), ((((((B24.ne Es1 (by omega)).ext Eb25).ext E1).ext Eb26).ext E2).ext E3), ((((B25.ext E1).ext Eb26).ext E2).ext E3), ((B26.ext E2).ext E3), (Tab.nil w10 49 41 3 pkC), (fun _ h => tb_nil h), (fun _ h => tb_nil h), (fun _ h => tb_nil h), (fun _ h => tb_nil h), (fun _ h => tb_nil h), (fun _ h => tb_nil h), (fun _ h => tb_nil h), (fun _ h => tb_nil h), by omega, rfl⟩ ?_
        rintro n1 ρ1 w11 A1 EL1 ⟨i, st1_1, ct1_1, TT1_1, rfl, hs1_43, BL1_800, BL1_21, BL1_22, BL1_23, BL1_24, BL1_25, BL1_26, tw1L_1, tg1L_1, tn1L_1_800, tn1L_1_21, tn1L_1_22, tn1L_1_23, tn1L_1_24, tn1L_1_25, tn1L_1_26, hi, hT0⟩
        have F13 := F10.wide EL1
        have hzL1 := EL1.size
        refine wk_seq ?_
        refine wk_region ?_
        refine lx_value (want rfl) (rn_lss hs1_43 (A1.at 42 rfl rfl)) ?_
        refine lx_dec (fun hlt => ?_) (fun hlt => ?_)
        ·
          obtain ⟨l, hl⟩ := getx hlt
          obtain ⟨bx, ox, rfl, _, sx, cx, hcx, hpx⟩ := hL i l hl
          refine lx_nil ?_
          refine wk_seq ?_
          refine wk_cond_t rfl ?_
          refine wk_skip ?_
          refine wk_seq ?_
          refine wk_block ?_
          refine wk_seq ?_
          refine wk_region ?_
          refine lx_value (want rfl) (rn_index _ Tryd.underlying22 sz_49 (A1.at 41 rfl rfl) hs1_43 rfl (by omega)) ?_
          refine lx_value (want rfl) (rn_load1 ag_49 rfl (F13.cell (fun h => h) hcx)) ?_
          refine lx_value (want rfl) (as_slice rfl) ?_
          refine lx_nil ?_
          have hTo := tw1L_1
          have hT := hT0
          have hSl : ∀ k, (ob st1_1) k → k < w11.heap.size := fun k h => (tw1L_1).lt (.inl h)
          refine wk_mixA 13 9 (ob st1_1) (fun kS => match kS with | 7 => .any (fun I v w => ∃ s c, v = .slice s l.length c ∧ OwnS w 41 3 s l.length c (l.flatMap pkC) ∧ ∀ k, ob s k → w11.heap.size ≤ k) | 8 => .any (fun I v w => ∃ b s c, v = .slice (some ⟨b, 0, none⟩) 1 1 ∧ w11.heap.size ≤ b ∧ Blk w b [.slice s l.length c] 49 ∧ OwnS w 41 3 s l.length c (l.flatMap pkC) ∧ ∀ k, ob s k → w11.heap.size ≤ k) | 9 => .any (fun I v w => ∃ (e : TE Pk) (s : Option Addr) (c : Nat), v = .slice s (TT1_1 ++ [e]).length c ∧ e.2.2 = l ∧ Tab w 49 41 3 pkC s c (TT1_1 ++ [e]) ∧ ∀ k, tb s (TT1_1 ++ [e]) k → (tb st1_1 TT1_1 k ∨ w11.heap.size ≤ k)) | _ => .none) (by kernel_rfl) (by kernel_rfl) (by intro kS G hk; (try dsimp only at hk); (split at hk) <;> first | (cases hk; done) | (injection hk with hk; subst hk; exact ⟨by intro j hkj I v w w' hR hG; first | exact hG | (obtain ⟨s, c, h1, h2, h3⟩ := hG; exact ⟨s, c, h1, h2.fr (mS hR) (fun k hk hs => by have := h3 k hk; have := hTo.out.lt hs; omega), h3⟩) | (obtain ⟨b, s, c, h1, h2, h3, h4, h5⟩ := hG; exact ⟨b, s, c, h1, h2, h3.fr (mS hR) (fun hs => by have := hTo.out.lt hs; omega), h4.fr (mS hR) (fun k hk hs => by have := h5 k hk; have := hTo.out.lt hs; omega), h5⟩) | (obtain ⟨e, s, c, h1, h2, h3, h4⟩ := hG; exact ⟨e, s, c, h1, h2, h3.ext (mT hkj hR), h4⟩), fun ⟨_, _, _, _, hs⟩ => by (try dsimp only at hs); split at hs <;> cases hs⟩)) (by intro kS s y G hk; (try dsimp only at hk); split at hk <;> cases hk) ?_
          simp only [List.take_succ_cons, List.take_zero, List.take_nil, List.drop_succ_cons, List.drop_zero, List.drop_nil]
          refine mx_calm rfl (want rfl) (fun u12 eu12 fu12 => rn_load1Blk ag_84 (A1.at 2 rfl rfl) (BL1_22.fr (mD (by decide) eu12) (fun h => tn1L_1_22 _ (.inl h) rfl)) rfl) ?_
          refine mx_calm rfl (want rfl) (fun u13 eu13 fu13 => rn_load1Blk ag_84 (A1.at 2 rfl rfl) (BL1_22.fr (mD (by decide) eu13) (fun h => tn1L_1_22 _ (.inl h) rfl)) rfl) ?_
          refine mx_calm rfl (want rfl) (fun u14 eu14 fu14 => rn_nilCheck rfl) ?_
          refine mx_calm rfl (want rfl) (fun u15 eu15 fu15 => rn_fieldAddr fa_76_0 rfl) ?_
          refine mx_calm rfl (want rfl) (fun u16 eu16 fu16 => rn_fieldAddr fa_24_2 rfl) ?_
          refine mx_calm rfl (want rfl) (fun u17 eu17 fu17 => rn_load1Blk ag_22 rfl (BL1_24.fr (mD (by decide) eu17) (fun h => tn1L_1_24 _ (.inl h) rfl)) rfl) ?_
          refine mx_calm rfl (want rfl) (fun u18 eu18 fu18 => mv_slice rfl) ?_
          refine mx_any rfl rfl (want rfl) (fun u19 eu19 fu19 => do_call (ent_func cf_79 (argsC (t_slice rfl) args0)) (clone_ct l _ _ _ u19 (hpx.fr (pk_stab _) (F13.new (mD (by decide) eu19) (fun k h => tg1L_1 k (.inl h))) (fun _ _ h => h)) (by have := hB.get hl; omega)) (fun v w' E h => ⟨(mE (by decide) E), by obtain ⟨s, c, h1, h2, h3⟩ := h; exact ⟨s, c, h1, h2, fun k hk => Nat.le_trans (mD (by decide) eu19).size (h3 k hk)⟩⟩)) (fun I54 v54 => ?_)
          refine mx_any rfl rfl (want rfl) (fun u20 eu20 fu20 => by obtain ⟨s, c, rfl, h24, hg24⟩ := fu20 54 _ rfl (show (54 : Nat) ∈ _ from by decide); exact (do_newS2 (rn_bslice (xs := [.tmp 54]) Tryd.underlying22 sz_49 ze_49 rfl (argsC (t_slice rfl) args0) (CL.cons rfl rfl CL.nil) rfl (Nat.le_of_ble_eq_true rfl)) (show _ ≤ _ from ((mD (by decide) eu20)).size)).mono (fun v w' h => ⟨(mE (by decide) h.1), by obtain ⟨h1, b, h2, h3, _, h4⟩ := h; exact ⟨b, s, c, h2, h3, h4, h24.ext h1, hg24⟩⟩)) (fun I55 v55 => ?_)
          refine mx_any rfl rfl (want rfl) (fun u21 eu21 fu21 => by obtain ⟨b25, s, c, rfl, hb25, hB25, h24, hg24⟩ := fu21 55 _ rfl (show (55 : Nat) ∈ _ from by decide); exact do_append 24 Tryd.underlying22 ti_49 (by decide) rfl (by decide) rfl rfl (tw1L_1.ext (mC eu21)).out (Src.blk hB25 rfl rfl) (by rw [show TT1_1.length = i by have := congrArg List.length hT; simp at this; omega]; have := hB.1; omega) (fun sA cA wA AP => ⟨(mF AP.fr), by obtain ⟨h1, h2⟩ := Tab.snoc (e := (s, c, l)) (tw1L_1.ext (mC eu21)) h24 (fun k hk hb => by have := hg24 k hk; have := hTo.lt hb; omega) AP; exact ⟨(s, c, l), sA, cA, by simp, rfl, h1, fun k hk => (h2 k hk).elim .inl (fun h => .inr (h.elim (hg24 k) (fun h => Nat.le_trans (mC eu21).size h)))⟩⟩)) (fun I56 v56 => ?_)
          refine mx_calm rfl (want rfl) (fun u22 eu22 fu22 => rn_nilCheck rfl) ?_
          refine mx_calm rfl (want rfl) (fun u23 eu23 fu23 => rn_fieldAddr fa_76_0 rfl) ?_
          refine mx_calm rfl (want rfl) (fun u24 eu24 fu24 => rn_fieldAddr fa_24_2 rfl) ?_
          refine mx_nil (fun w12 E4' H2 HS => ?_)
          have E4 := mG E4'
          have F14 := F13.new E4 (fun k h => tg1L_1 k (.inl h))
          have hz4 := E4.size
          have hI56 := (HS.1 56 _ rfl).2
          have hI55 := (HS.1 55 _ rfl).2
          have hI54 := (HS.1 54 _ rfl).2
          have hX56_55 := HS.2 56 _ 55 _ rfl rfl (show (56 : Nat) ≠ 55 from by decide)
          have hX56_54 := HS.2 56 _ 54 _ rfl rfl (show (56 : Nat) ≠ 54 from by decide)
          have hX55_54 := HS.2 55 _ 54 _ rfl rfl (show (55 : Nat) ≠ 54 from by decide)
          simp only at hI56
          simp only at hI55
          simp only at hI54
          simp only at hX56_55
          simp only at hX56_54
          simp only at hX55_54
          have g56 := H2 56 _ rfl
          obtain ⟨e, sN, cN, rfl, he, hTN, hIN⟩ := g56
          have tg2 : ∀ k, tb sN (TT1_1 ++ [e]) k → w0.heap.size ≤ k := fun k hk => (hIN k hk).elim (tg1L_1 k) (fun h => by omega)
          have tn2_800 : ∀ k, tb sN (TT1_1 ++ [e]) k → k ≠ 1 := fun k hk => (hIN k hk).elim (tn1L_1_800 k) (fun h => by have := (BL1_800).lt; omega)
          have tn2_21 : ∀ k, tb sN (TT1_1 ++ [e]) k → k ≠ b21 := fun k hk => (hIN k hk).elim (tn1L_1_21 k) (fun h => by have := (BL1_21).lt; omega)
          have tn2_22 : ∀ k, tb sN (TT1_1 ++ [e]) k → k ≠ b22 := fun k hk => (hIN k hk).elim (tn1L_1_22 k) (fun h => by have := (BL1_22).lt; omega)
          have tn2_23 : ∀ k, tb sN (TT1_1 ++ [e]) k → k ≠ b23 := fun k hk => (hIN k hk).elim (tn1L_1_23 k) (fun h => by have := (BL1_23).lt; omega)
          have tn2_24 : ∀ k, tb sN (TT1_1 ++ [e]) k → k ≠ b24 := fun k hk => (hIN k hk).elim (tn1L_1_24 k) (fun h => by have := (BL1_24).lt; omega)
          have tn2_25 : ∀ k, tb sN (TT1_1 ++ [e]) k → k ≠ b25 := fun k hk => (hIN k hk).elim (tn1L_1_25 k) (fun h => by have := (BL1_25).lt; omega)
          have tn2_26 : ∀ k, tb sN (TT1_1 ++ [e]) k → k ≠ b26 := fun k hk => (hIN k hk).elim (tn1L_1_26 k) (fun h => by have := (BL1_26).lt; omega)
          have g55 := H2 55 _ rfl
          have g54 := H2 54 _ rfl
          refine lx_set (want rfl) sz_22 rfl (t_slice rfl) rfl rfl rfl (BL1_24.fr E4 (fun h => tn1L_1_24 _ (.inl h) rfl)) (Nat.le_of_ble_eq_true rfl) ?_
          intro w13 Es4 Bs4
          have F15 := F14.set Es4 (by omega)
          have hzs4 := Es4.size
          refine lx_nil ?_
          refine wk_region ?_
          refine lx_value (want rfl) (rn_add hs1_43 rfl (by omega)) ?_
          refine lx_value (want rfl) (mv_int rfl) ?_
          refine lx_nil ?_
          exact ⟨rfl, ((((((((((((((((((((A1.up rfl _).up rfl _).up rfl _).up rfl _).up rfl _).up rfl _).up rfl _).up rfl _).up rfl _).up rfl _).up rfl _).up rfl _).up rfl _).up rfl _).up rfl _).up rfl _).up rfl _).none _).up rfl _).up rfl _), Fr.between F10 F15 (by omega), _, (by omega), i + 1, sN, cN, (TT1_1 ++ [e]), rfl, rfl, ((BL1_800.fr E4 (fun h => tn1L_1_800 _ (.inl h) rfl)).ne Es4 (by omega)), ((BL1_21.fr E4 (fun h => tn1L_1_21 _ (.inl h) rfl)).ne Es4 (by omega)), ((BL1_22.fr E4 (fun h => tn1L_1_22 _ (.inl h) rfl)).ne Es4 (by omega)), ((BL1_23.fr E4 (fun h => tn1L_1_23 _ (.inl h) rfl)).ne Es4 (by omega)), Bs4, ((BL1_25.fr E4 (fun h => tn1L_1_25 _ (.inl h) rfl)).ne Es4 (by omega)), ((BL1_26.fr E4 (fun h => tn1L_1_26 _ (.inl h) rfl)).ne Es4 (by omega)), (hTN.fr Es4 (fun k hk h => tn2_24 k hk h)), tg2, tn2_800, tn2_21, tn2_22, tn2_23, tn2_24, tn2_25, tn2_26, by have := (List.getElem?_eq_some_iff.1 hl).1; omega, (tab_step hT0 hl he)⟩
        ·
          refine lx_nil ?_
          refine wk_seq ?_
          refine wk_cond_f rfl ?_
          refine wk_exit ?_
          refine wk_seq ?_
          refine wk_seq ?_
          refine wk_region ?_
          refine lx_value (want rfl) (rn_load1Blk ag_84 (A1.at 2 rfl rfl) BL1_22 rfl) ?_
          refine lx_value (want rfl) (rn_nilCheck rfl) ?_
          refine lx_value (want rfl) (rn_loadBlk ag_76 sz_76 rfl BL1_24 rfl rfl) ?_
          have hTL : TT1_1.map (·.2.2) = L := by rw [hT0, List.take_of_length_le (by omega)]
          have hTn : TT1_1.length = L.length := by rw [← hTL, List.length_map]
          refine lx_call (want rfl) (ent_func cf_80 (argsC (t_agg rfl) args0)) (spots_ct dim r _ _ _ w11) ?_
          rintro _ w12 E5 ⟨bs, rfl, BS, hbs⟩
          have F16 := F13.ext E5
          have hz5 := E5.size
          have hlbs := (BS).lt
          have nb1 : ∀ k, tb st1_1 TT1_1 k → k ≠ bs := fun k hk => by have := (tw1L_1).lt hk; omega
          refine lx_nil ?_
          refine wk_block ?_
          refine wk_abs ?_
          intro ρR2 hR2
          refine wk_range (ps := [65, 66]) ((hR2 64).trans rfl) cf_90 ?_
          intro fR2 db2 l2 w13 RC2 hRC2 hdb2 hl2 hsz2 ER2 HD2 HL2
          have F17 := F16.ext ER2
          have hzR2 := ER2.size
          have nb2 : ∀ k, tb st1_1 TT1_1 k → k ≠ l2 := fun k hk => by have := (tw1L_1).lt hk; omega
          have nb3 : ∀ k, tb st1_1 TT1_1 k → k ≠ db2 := fun k hk => by have := (tw1L_1).lt hk; omega
          have hlt2_l := (HL2).lt
          have hlt2_d := (HD2).lt
          refine CT.mono (spots1_ct l2 bs TT1_1.length dim r _ _ hd (by omega) (fun (i : Nat) (w : World) => ∃ (st2_1 : Option Addr) (ct2_1 : Nat) (TT2_1 : List (TE Pk)), Fr no w0 w ∧ w13.heap.size ≤ w.heap.size ∧ Tb w 1 ∧ Blk w b21 (cellsOf BL1_21) 24 ∧ Blk w b22 (cellsOf BL1_22) 84 ∧ Blk w b23 (cellsOf BL1_23) 25 ∧ Blk w b24 [.int .i64 dim, .int .i64 r, .slice st2_1 TT2_1.length ct2_1] 76 ∧ Blk w b25 (cellsOf BL1_25) 3 ∧ Blk w b26 (cellsOf BL1_26) 3 ∧ Blk w bs (cellsOf BS) 76 ∧ At w l2 (RC2 .ready none) ∧ At w db2 (.deferred (some [])) ∧ Tab w 49 41 3 pkC st2_1 ct2_1 TT2_1 ∧ (∀ k, tb st2_1 TT2_1 k → w0.heap.size ≤ k) ∧ (∀ k, tb st2_1 TT2_1 k → k ≠ 1) ∧ (∀ k, tb st2_1 TT2_1 k → k ≠ b21) ∧ (∀ k, tb st2_1 TT2_1 k → k ≠ b22) ∧ (∀ k, tb st2_1 TT2_1 k → k ≠ b23) ∧ (∀ k, tb st2_1 TT2_1 k → k ≠ b24) ∧ (∀ k, tb st2_1 TT2_1 k → k ≠ b25) ∧ (∀ k, tb st2_1 TT2_1 k → k ≠ b26) ∧ (∀ k, tb st2_1 TT2_1 k → k ≠ bs) ∧ (∀ k, tb st2_1 TT2_1 k → k ≠ l2) ∧ (∀ k, tb st2_1 TT2_1 k → k ≠ db2) ∧ (TT2_1.map (·.2.2) = L) ∧ (upto dim r L i)) (fun (w : World) => Fr no w0 w ∧ w13.heap.size ≤ w.heap.size ∧ At w l2 (RC2 .done (some .ret)) ∧ At w db2 (.deferred (some [])) ∧ Blk w b22 [.pointer none] 84 ∧ Blk w b23 [.int .i64 4] 25 ∧ formB dim r L = false) w13 ⟨st1_1, ct1_1, TT1_1, F17, (by omega), ((BL1_800.ext E5).ext ER2), ((BL1_21.ext E5).ext ER2), ((BL1_22.ext E5).ext ER2), ((BL1_23.ext E5).ext ER2), ((BL1_24.ext E5).ext ER2), ((BL1_25.ext E5).ext ER2), ((BL1_26.ext E5).ext ER2), (BS.ext ER2), HL2, HD2, ((tw1L_1.ext E5).ext ER2), tg1L_1, tn1L_1_800, tn1L_1_21, tn1L_1_22, tn1L_1_23, tn1L_1_24, tn1L_1_25, tn1L_1_26, nb1, nb2, nb3, hTL, (fun n hn => by omega)⟩ (by rintro i w ⟨st2_1, ct2_1, TT2_1, FW2, hzW2, BL2_800, BL2_21, BL2_22, BL2_23, BL2_24, BL2_25, BL2_26, BL2_40, BL2_901, BL2_902, tw2L_1, tg2L_1, tn2L_1_800, tn2L_1_21, tn2L_1_22, tn2L_1_23, tn2L_1_24, tn2L_1_25, tn2L_1_26, tn2L_1_40, tn2L_1_901, tn2L_1_902, hT2, hq⟩; exact BL2_40) (by rintro i w ⟨st2_1, ct2_1, TT2_1, FW2, hzW2, BL2_800, BL2_21, BL2_22, BL2_23, BL2_24, BL2_25, BL2_26, BL2_40, BL2_901, BL2_902, tw2L_1, tg2L_1, tn2L_1_800, tn2L_1_21, tn2L_1_22, tn2L_1_23, tn2L_1_24, tn2L_1_25, tn2L_1_26, tn2L_1_40, tn2L_1_901, tn2L_1_902, hT2, hq⟩; exact (Fr.between F17 FW2 hzW2).mono (fun _ _ _ => trivial)) (by rintro w ⟨FZ2, hzZ2, HZl2, HZd2, BZ2_22, BZ2_23, hz⟩; exact (Fr.between F17 FZ2 hzZ2).mono (fun _ _ _ => trivial)) ?_) (fun _ _ h => h) ?_
          ·
            rintro i w14 w15 hi2 ⟨st2_1, ct2_1, TT2_1, FW2, hzW2, BL2_800, BL2_21, BL2_22, BL2_23, BL2_24, BL2_25, BL2_26, BL2_40, BL2_901, BL2_902, tw2L_1, tg2L_1, tn2L_1_800, tn2L_1_21, tn2L_1_22, tn2L_1_23, tn2L_1_24, tn2L_1_25, tn2L_1_26, tn2L_1_40, tn2L_1_901, tn2L_1_902, hT2, hq⟩ E2r
            have F18 := FW2.ext E2r
            have hz2r := E2r.size
            refine yd_round hRC2 (BL2_901.ext E2r) rfl ?_
            refine wk_seq ?_
            refine wk_region ?_
            refine lx_value (want rfl) (as_int rfl) ?_
            refine lx_nil ?_
            refine wk_region ?_
            refine lx_new (want rfl) (rn_alloc ze_82) ?_
            intro b27 w16 hb27 Eb27 B27 hlb27
            have F19 := F18.ext Eb27
            have hzb27 := Eb27.size
            have nb4 : ∀ k, tb st2_1 TT2_1 k → k ≠ b27 := fun k hk => by have := (tw2L_1).lt hk; omega
            refine lx_set (want rfl) sz_82 rfl rfl rfl rfl rfl B27 (Nat.le_of_ble_eq_true rfl) ?_
            intro w17 Es5 Bs5
            have F20 := F19.set Es5 (by omega)
            have hzs5 := Es5.size
            refine lx_nil ?_
            refine ⟨rfl, (((BL2_901.ext E2r).ext Eb27).ne Es5 (by omega)), fun w18 E6 HBE6 => ?_⟩
            have F21 := F20.set E6 (by omega)
            have hz6 := E6.size
            obtain ⟨l, hl⟩ : ∃ l, L[i]? = some l := ⟨_, List.getElem?_eq_getElem (by omega)⟩
            obtain ⟨hx1, hx2, hx3⟩ := at_bounds hd (show i < 2 ^ dim * (dim + 1) by omega)
            refine wk_block ?_
            refine wk_seq ?_
            refine wk_region ?_
            refine lx_value (want rfl) (rn_makeFunc (argsC (t_pointer ((hR2 2).trans (A1.at 2 rfl rfl))) (argsC (t_pointer rfl) args0))) ?_
            refine lx_value (want rfl) (as_func rfl) ?_
            refine lx_nil ?_
            refine wk_seq ?_
            obtain ⟨⟨sE, cE, lE⟩, he, hel⟩ := tab_at hT2 hl
            dsimp only at hel
            subst hel
            obtain ⟨bT, oT, hs, hcT⟩ := (((((tw2L_1.ext E2r).ext Eb27).fr Es5 (fun k hk h => nb4 k hk h)).fr E6 (fun k hk h => tn2L_1_901 k hk h))).get he
            subst hs
            refine wk_mix 26 (fun kS => match kS with | 25 => .val (.bool (l.any (fun p => !(canB dim p (i / (dim + 1)) (i % (dim + 1)))))) | _ => .none) (by kernel_rfl) (by kernel_rfl) (by intro kS G hk; (try dsimp only at hk); (split at hk) <;> first | (cases hk; done) | (injection hk with hk; subst hk; exact ⟨by intro j hkj I v w w' hR hG; first | exact hG, fun ⟨_, _, _, _, hs⟩ => by (try dsimp only at hs); split at hs <;> cases hs⟩)) (by intro kS s y G hk; (try dsimp only at hk); split at hk <;> cases hk) ?_
            simp only [List.take_succ_cons, List.take_zero, List.take_nil, List.drop_succ_cons, List.drop_zero, List.drop_nil]
            refine mx_calm rfl (want rfl) (fun u25 eu25 fu25 => rn_load1Blk ag_84 ((hR2 2).trans (A1.at 2 rfl rfl)) (((((BL2_22.ext E2r).ext Eb27).ne Es5 (by omega)).ne E6 (by omega)).ext ((ext_drawn _).trans' eu25)) rfl) ?_
            refine mx_calm rfl (want rfl) (fun u26 eu26 fu26 => rn_nilCheck rfl) ?_
            refine mx_calm rfl (want rfl) (fun u27 eu27 fu27 => rn_fieldAddr fa_76_0 rfl) ?_
            refine mx_calm rfl (want rfl) (fun u28 eu28 fu28 => rn_fieldAddr fa_24_2 rfl) ?_
            refine mx_calm rfl (want rfl) (fun u29 eu29 fu29 => rn_load1Blk ag_22 rfl (((((BL2_24.ext E2r).ext Eb27).ne Es5 (by omega)).ne E6 (by omega)).ext ((ext_drawn _).trans' eu29)) rfl) ?_
            refine mx_calm rfl (want rfl) (fun u30 eu30 fu30 => mv_int rfl) ?_
            refine mx_calm rfl (want rfl) (fun u31 eu31 fu31 => rn_index i Tryd.underlying22 sz_49 rfl rfl rfl (List.getElem?_eq_some_iff.1 he).1) ?_
            refine mx_calm rfl (want rfl) (fun u32 eu32 fu32 => rn_load1 ag_49 rfl (((ext_drawn _).trans' eu32).cell (fun h => h) hcT)) ?_
            refine mx_calm rfl (want rfl) (fun u33 eu33 fu33 => rn_len Tryd.underlying49 rfl) ?_
            refine mx_calm rfl (want rfl) (fun u34 eu34 fu34 => rn_load1Blk ag_84 ((hR2 2).trans (A1.at 2 rfl rfl)) (((((BL2_22.ext E2r).ext Eb27).ne Es5 (by omega)).ne E6 (by omega)).ext ((ext_drawn _).trans' eu34)) rfl) ?_
            refine mx_calm rfl (want rfl) (fun u35 eu35 fu35 => rn_nilCheck rfl) ?_
            refine mx_calm rfl (want rfl) (fun u36 eu36 fu36 => rn_fieldAddr fa_76_0 rfl) ?_
            refine mx_calm rfl (want rfl) (fun u37 eu37 fu37 => rn_fieldAddr fa_24_1 rfl) ?_
            refine mx_calm rfl (want rfl) (fun u38 eu38 fu38 => rn_load1Blk ag_3 rfl (((((BL2_24.ext E2r).ext Eb27).ne Es5 (by omega)).ne E6 (by omega)).ext ((ext_drawn _).trans' eu38)) rfl) ?_
            refine mx_calm rfl (want rfl) (fun u39 eu39 fu39 => rn_gtr rfl rfl) ?_
            refine mx_dec (fun h82 => ?_) (fun h82 => ?_)
            ·
              refine mx_calm rfl (want rfl) (fun u40 eu40 fu40 => mv_bool rfl) ?_
              refine mx_skip (want_if (j := 15) (d := 83) (x := false) (y := true) rfl rfl (by decide) rfl) ?_
              refine mx_skip (want_if (j := 15) (d := 83) (x := false) (y := true) rfl rfl (by decide) rfl) ?_
              refine mx_skip (want_if (j := 15) (d := 83) (x := false) (y := true) rfl rfl (by decide) rfl) ?_
              refine mx_skip (want_if (j := 15) (d := 83) (x := false) (y := true) rfl rfl (by decide) rfl) ?_
              refine mx_skip (want_if (j := 15) (d := 83) (x := false) (y := true) rfl rfl (by decide) rfl) ?_
              refine mx_skip (want_if (j := 15) (d := 83) (x := false) (y := true) rfl rfl (by decide) rfl) ?_
              refine mx_skip (want_if (j := 15) (d := 83) (x := false) (y := true) rfl rfl (by decide) rfl) ?_
              refine mx_skip (want_if (j := 15) (d := 83) (x := false) (y := true) rfl rfl (by decide) rfl) ?_
              refine mx_skip (want_if (j := 15) (d := 83) (x := false) (y := true) rfl rfl (by decide) rfl) ?_
              refine mx_skip (want_if (j := 15) (d := 83) (x := false) (y := true) rfl rfl (by decide) rfl) ?_
              refine mx_nil (fun w19 E7' H3 HS => ?_)
              have E7 := (ext_drawn _).trans' E7'
              have F22 := F21.ext E7
              have hz7 := E7.size
              refine lx_value (want rfl) (pick_t rfl rfl) ?_
              refine lx_nil ?_
              refine wk_cond_t rfl ?_
              refine wk_seq ?_
              refine wk_region ?_
              refine lx_set (want rfl) sz_84 ((hR2 2).trans (A1.at 2 rfl rfl)) (t_pointer rfl) rfl rfl rfl (((((BL2_22.ext E2r).ext Eb27).ne Es5 (by omega)).ne E6 (by omega)).ext E7) (Nat.le_of_ble_eq_true rfl) ?_
              intro w20 Es6 Bs6
              have F23 := F22.set Es6 (by omega)
              have hzs6 := Es6.size
              refine lx_set (want rfl) sz_25 ((hR2 3).trans (A1.at 3 rfl rfl)) (t_int rfl) rfl rfl rfl ((((((BL2_23.ext E2r).ext Eb27).ne Es5 (by omega)).ne E6 (by omega)).ext E7).ne Es6 (by omega)) (Nat.le_of_ble_eq_true rfl) ?_
              intro w21 Es7 Bs7
              have F24 := F23.set Es7 (by omega)
              have hzs7 := Es7.size
              refine lx_nil ?_
              refine wk_ret ?_
              refine ⟨(((HBE6.ext E7).ne Es6 (by omega)).ne Es7 (by omega)), fun w22 E8 HRE8 => ?_⟩
              have F25 := F24.set E8 (by omega)
              have hz8 := E8.size
              exact ⟨(by omega), (show Nx _ _ false from ⟨F25, (by omega), HRE8, ((((((((BL2_902.ext E2r).ext Eb27).ne Es5 (by omega)).ne E6 (by omega)).ext E7).ne Es6 (by omega)).ne Es7 (by omega)).ne E8 (by omega)), ((Bs6.ne Es7 (by omega)).ne E8 (by omega)), (Bs7.ne E8 (by omega)), (by first | exact form_buf hl (buf_long h82) | exact buf_odd_t hl h93)⟩)⟩
            ·
              refine mx_calm rfl (want rfl) (fun u41 eu41 fu41 => mv_bool rfl) ?_
              refine mx_calm rfl (want_if (j := 15) (d := 83) (x := false) (y := false) rfl rfl (by decide) rfl) (fun u42 eu42 fu42 => rn_load1Blk ag_84 ((hR2 2).trans (A1.at 2 rfl rfl)) (((((BL2_22.ext E2r).ext Eb27).ne Es5 (by omega)).ne E6 (by omega)).ext ((ext_drawn _).trans' eu42)) rfl) ?_
              refine mx_calm rfl (want_if (j := 15) (d := 83) (x := false) (y := false) rfl rfl (by decide) rfl) (fun u43 eu43 fu43 => rn_nilCheck rfl) ?_
              refine mx_calm rfl (want_if (j := 15) (d := 83) (x := false) (y := false) rfl rfl (by decide) rfl) (fun u44 eu44 fu44 => rn_fieldAddr fa_76_0 rfl) ?_
              refine mx_calm rfl (want_if (j := 15) (d := 83) (x := false) (y := false) rfl rfl (by decide) rfl) (fun u45 eu45 fu45 => rn_fieldAddr fa_24_2 rfl) ?_
              refine mx_calm rfl (want_if (j := 15) (d := 83) (x := false) (y := false) rfl rfl (by decide) rfl) (fun u46 eu46 fu46 => rn_load1Blk ag_22 rfl (((((BL2_24.ext E2r).ext Eb27).ne Es5 (by omega)).ne E6 (by omega)).ext ((ext_drawn _).trans' eu46)) rfl) ?_
              refine mx_calm rfl (want_if (j := 15) (d := 83) (x := false) (y := false) rfl rfl (by decide) rfl) (fun u47 eu47 fu47 => mv_int rfl) ?_
              refine mx_calm rfl (want_if (j := 15) (d := 83) (x := false) (y := false) rfl rfl (by decide) rfl) (fun u48 eu48 fu48 => rn_index i Tryd.underlying22 sz_49 rfl rfl rfl (List.getElem?_eq_some_iff.1 he).1) ?_
              refine mx_calm rfl (want_if (j := 15) (d := 83) (x := false) (y := false) rfl rfl (by decide) rfl) (fun u49 eu49 fu49 => rn_load1 ag_49 rfl (((ext_drawn _).trans' eu49).cell (fun h => h) hcT)) ?_
              refine mx_calm rfl (want_if (j := 15) (d := 83) (x := false) (y := false) rfl rfl (by decide) rfl) (fun u50 eu50 fu50 => mv_func rfl) ?_
              refine mx_val rfl (want_if (j := 15) (d := 83) (x := false) (y := false) rfl rfl (by decide) rfl) (fun u51 eu51 fu51 => do_call (ent_func cf_83 (argsC (t_slice rfl) (argsC (t_func rfl) args0))) (containsp_ct l _ _ (fun _ => True) 81 [.pointer (some ⟨b22, 0, none⟩), .pointer (some ⟨b27, 0, none⟩)] (fun p => !(canB dim p (i / (dim + 1)) (i % (dim + 1)))) cf_81 u51 ((((((((tw2L_1.ext E2r).ext Eb27).fr Es5 (fun k hk h => nb4 k hk h)).fr E6 (fun k hk h => tn2L_1_901 k hk h)).ext ((ext_drawn _).trans' eu51))).own _ _ he).sl (by decide) rfl (fun _ _ => rfl) (fun _ _ => trivial)) (by have := hB.get hl; omega) (fun z w hz E => odd_ct z.1 z.2.1 z.2.2 b22 b27 b24 dim r _ _ _ _ _ hd (by assumption) (by assumption) w ((((((BL2_800.ext E2r).ext Eb27).ne Es5 (by omega)).ne E6 (by omega)).ext ((ext_drawn _).trans' eu51)).ext E) ((((((BL2_22.ext E2r).ext Eb27).ne Es5 (by omega)).ne E6 (by omega)).ext ((ext_drawn _).trans' eu51)).ext E) ((((((BL2_24.ext E2r).ext Eb27).ne Es5 (by omega)).ne E6 (by omega)).ext ((ext_drawn _).trans' eu51)).ext E) (((Bs5.ne E6 (by omega)).ext ((ext_drawn _).trans' eu51)).ext E))) (fun _ _ E h => ⟨E, h⟩)) ?_
              refine mx_split (fun h93 => ?_) (fun h93 => ?_)
              ·
                refine mx_nil (fun w19 E9' H4 HS => ?_)
                have E9 := (ext_drawn _).trans' E9'
                have F26 := F21.ext E9
                have hz9 := E9.size
                refine lx_value (want rfl) (pick_f rfl rfl) ?_
                refine lx_nil ?_
                refine wk_cond_t rfl ?_
                refine wk_seq ?_
                refine wk_region ?_
                refine lx_set (want rfl) sz_84 ((hR2 2).trans (A1.at 2 rfl rfl)) (t_pointer rfl) rfl rfl rfl (((((BL2_22.ext E2r).ext Eb27).ne Es5 (by omega)).ne E6 (by omega)).ext E9) (Nat.le_of_ble_eq_true rfl) ?_
                intro w20 Es8 Bs8
                have F27 := F26.set Es8 (by omega)
                have hzs8 := Es8.size
                refine lx_set (want rfl) sz_25 ((hR2 3).trans (A1.at 3 rfl rfl)) (t_int rfl) rfl rfl rfl ((((((BL2_23.ext E2r).ext Eb27).ne Es5 (by omega)).ne E6 (by omega)).ext E9).ne Es8 (by omega)) (Nat.le_of_ble_eq_true rfl) ?_
                intro w21 Es9 Bs9
                have F28 := F27.set Es9 (by omega)
                have hzs9 := Es9.size
                refine lx_nil ?_
                refine wk_ret ?_
                refine ⟨(((HBE6.ext E9).ne Es8 (by omega)).ne Es9 (by omega)), fun w22 E10 HRE10 => ?_⟩
                have F29 := F28.set E10 (by omega)
                have hz10 := E10.size
                exact ⟨(by omega), (show Nx _ _ false from ⟨F29, (by omega), HRE10, ((((((((BL2_902.ext E2r).ext Eb27).ne Es5 (by omega)).ne E6 (by omega)).ext E9).ne Es8 (by omega)).ne Es9 (by omega)).ne E10 (by omega)), ((Bs8.ne Es9 (by omega)).ne E10 (by omega)), (Bs9.ne E10 (by omega)), (by first | exact form_buf hl (buf_long h82) | exact buf_odd_t hl h93)⟩)⟩
              ·
                refine mx_nil (fun w19 E11' H5 HS => ?_)
                have E11 := (ext_drawn _).trans' E11'
                have F30 := F21.ext E11
                have hz11 := E11.size
                refine lx_value (want rfl) (pick_f rfl rfl) ?_
                refine lx_nil ?_
                refine wk_cond_f rfl ?_
                refine wk_skip ?_
                refine ⟨(HBE6.ext E11), fun w20 E12 HRE12 => ?_⟩
                have F31 := F30.set E12 (by omega)
                have hz12 := E12.size
                exact ⟨(by omega), (show Nx _ _ true from ⟨(some (⟨bT, oT, none⟩ : Addr)), ct2_1, TT2_1, F31, (by omega), ((((((BL2_800.ext E2r).ext Eb27).ne Es5 (by omega)).ne E6 (by omega)).ext E11).ne E12 (by omega)), ((((((BL2_21.ext E2r).ext Eb27).ne Es5 (by omega)).ne E6 (by omega)).ext E11).ne E12 (by omega)), ((((((BL2_22.ext E2r).ext Eb27).ne Es5 (by omega)).ne E6 (by omega)).ext E11).ne E12 (by omega)), ((((((BL2_23.ext E2r).ext Eb27).ne Es5 (by omega)).ne E6 (by omega)).ext E11).ne E12 (by omega)), ((((((BL2_24.ext E2r).ext Eb27).ne Es5 (by omega)).ne E6 (by omega)).ext E11).ne E12 (by omega)), ((((((BL2_25.ext E2r).ext Eb27).ne Es5 (by omega)).ne E6 (by omega)).ext E11).ne E12 (by omega)), ((((((BL2_26.ext E2r).ext Eb27).ne Es5 (by omega)).ne E6 (by omega)).ext E11).ne E12 (by omega)), ((((((BL2_40.ext E2r).ext Eb27).ne Es5 (by omega)).ne E6 (by omega)).ext E11).ne E12 (by omega)), HRE12, ((((((BL2_902.ext E2r).ext Eb27).ne Es5 (by omega)).ne E6 (by omega)).ext E11).ne E12 (by omega)), ((((((tw2L_1.ext E2r).ext Eb27).fr Es5 (fun k hk h => nb4 k hk h)).fr E6 (fun k hk h => tn2L_1_901 k hk h)).ext E11).fr E12 (fun k hk h => tn2L_1_901 k hk h)), tg2L_1, tn2L_1_800, tn2L_1_21, tn2L_1_22, tn2L_1_23, tn2L_1_24, tn2L_1_25, tn2L_1_26, tn2L_1_40, tn2L_1_901, tn2L_1_902, hT2, upto_step hq hl (buf_odd h82 h93)⟩)⟩
          ·
            rintro v w15 - (⟨w14, ⟨st2_1, ct2_1, TT2_1, FW2, hzW2, BL2_800, BL2_21, BL2_22, BL2_23, BL2_24, BL2_25, BL2_26, BL2_40, BL2_901, BL2_902, tw2L_1, tg2L_1, tn2L_1_800, tn2L_1_21, tn2L_1_22, tn2L_1_23, tn2L_1_24, tn2L_1_25, tn2L_1_26, tn2L_1_40, tn2L_1_901, tn2L_1_902, hT2, hq⟩, E2e⟩ | ⟨w14, ⟨FZ2, hzZ2, HZl2, HZd2, BZ2_22, BZ2_23, hz⟩, E2e⟩)
            ·
              have F32 := FW2.ext E2e
              have hz2e := E2e.size
              refine .inl ⟨(BL2_901.ext E2e), fun w16 E2f => ?_⟩
              have F33 := F32.set E2f (by omega)
              have hz2f := E2f.size
              refine wk_seq ?_
              refine wk_region ?_
              refine lx_value (want rfl) (rn_load1Blk ag_84 ((hR2 2).trans (A1.at 2 rfl rfl)) ((BL2_22.ext E2e).ne E2f (by omega)) rfl) ?_
              refine lx_set (want rfl) sz_84 ((hR2 2).trans (A1.at 2 rfl rfl)) (t_pointer rfl) rfl rfl rfl ((BL2_22.ext E2e).ne E2f (by omega)) (Nat.le_of_ble_eq_true rfl) ?_
              intro w17 Es10 Bs10
              have F34 := F33.set Es10 (by omega)
              have hzs10 := Es10.size
              refine lx_set (want rfl) sz_25 ((hR2 3).trans (A1.at 3 rfl rfl)) (t_int rfl) rfl rfl rfl (((BL2_23.ext E2e).ne E2f (by omega)).ne Es10 (by omega)) (Nat.le_of_ble_eq_true rfl) ?_
              intro w18 Es11 Bs11
              have F35 := F34.set Es11 (by omega)
              have hzs11 := Es11.size
              refine lx_nil ?_
              refine wk_ret ?_
              refine retM1 ((((BL2_902.ext E2e).ne E2f (by omega)).ne Es10 (by omega)).ne Es11 (by omega)) (fun w19 E13 => ?_)
              have F36 := F35.set E13 (by omega)
              have hz13 := E13.size
              refine retR2 Tryd.results51 (.cell ((hR2 2).trans (A1.at 2 rfl rfl)) (run_loadVar_blk1 ag_84 ((Bs10.ne Es11 (by omega)).ne E13 (by omega)) rfl)) (.cell ((hR2 3).trans (A1.at 3 rfl rfl)) (run_loadVar_blk1 ag_25 (Bs11.ne E13 (by omega)) rfl)) F36 ?_
              exact open_ok (upto_end hd hr hll (by omega) hq) (((((BL2_24.ext E2e).ne E2f (by omega)).ne Es10 (by omega)).ne Es11 (by omega)).ne E13 (by omega)) (((((tw2L_1.ext E2e).fr E2f (fun k hk h => tn2L_1_901 k hk h)).fr Es10 (fun k hk h => tn2L_1_22 k hk h)).fr Es11 (fun k hk h => tn2L_1_23 k hk h)).fr E13 (fun k hk h => tn2L_1_902 k hk h)) (fun k hk => tn2L_1_24 k hk) hT2 (by omega) tg2L_1
            ·
              have F37 := FZ2.ext E2e
              have hz2e := E2e.size
              refine .inr ⟨(HZl2.ext E2e), fun w16 E2f => ?_⟩
              have F38 := F37.set E2f (by omega)
              have hz2f := E2f.size
              refine retM1 ((HZd2.ext E2e).ne E2f (by omega)) (fun w17 E14 => ?_)
              have F39 := F38.set E14 (by omega)
              have hz14 := E14.size
              refine retR2 Tryd.results51 (.cell ((hR2 2).trans (A1.at 2 rfl rfl)) (run_loadVar_blk1 ag_84 (((BZ2_22.ext E2e).ne E2f (by omega)).ne E14 (by omega)) rfl)) (.cell ((hR2 3).trans (A1.at 3 rfl rfl)) (run_loadVar_blk1 ag_25 (((BZ2_23.ext E2e).ne E2f (by omega)).ne E14 (by omega)) rfl)) F39 ?_
              exact open_form hd hr hz
    ·
      refine lx_value (want rfl) (rn_not rfl) ?_
      refine lx_value (want rfl) (as_bool rfl) ?_
      refine lx_nil ?_
      refine wk_cond_t rfl ?_
      refine wk_seq ?_
      refine wk_region ?_
      refine lx_set (want rfl) sz_84 rfl (t_pointer rfl) rfl rfl rfl ((((Bs1.ext Eb25).ext E1).ext Eb26).ext E2) (Nat.le_of_ble_eq_true rfl) ?_
      intro w10 Es12 Bs12
      have F40 := F9.set Es12 (by omega)
      have hzs12 := Es12.size
      refine lx_set (want rfl) sz_25 rfl (t_int rfl) rfl rfl rfl (((((((B23.ext Eb24).ne Es1 (by omega)).ext Eb25).ext E1).ext Eb26).ext E2).ne Es12 (by omega)) (Nat.le_of_ble_eq_true rfl) ?_
      intro w11 Es13 Bs13
      have F41 := F40.set Es13 (by omega)
      have hzs13 := Es13.size
      refine lx_nil ?_
      refine wk_ret ?_
      refine retM0 ?_
      refine retR2 Tryd.results51 (.cell rfl (run_loadVar_blk1 ag_84 (Bs12.ne Es13 (by omega)) rfl)) (.cell rfl (run_loadVar_blk1 ag_25 Bs13 rfl)) F41 ?_
      exact open_range (by have := not_one h25; omega)
  ·
    refine lx_value (want rfl) (rn_not rfl) ?_
    refine lx_value (want rfl) (as_bool rfl) ?_
    refine lx_nil ?_
    refine wk_cond_t rfl ?_
    refine wk_skip ?_
    refine wk_cond_t rfl ?_
    refine wk_seq ?_
    refine wk_region ?_
    refine lx_set (want rfl) sz_84 rfl (t_pointer rfl) rfl rfl rfl ((Bs1.ext Eb25).ext E1) (Nat.le_of_ble_eq_true rfl) ?_
    intro w8 Es14 Bs14
    have F42 := F7.set Es14 (by omega)
    have hzs14 := Es14.size
    refine lx_set (want rfl) sz_25 rfl (t_int rfl) rfl rfl rfl (((((B23.ext Eb24).ne Es1 (by omega)).ext Eb25).ext E1).ne Es14 (by omega)) (Nat.le_of_ble_eq_true rfl) ?_
    intro w9 Es15 Bs15
    have F43 := F42.set Es15 (by omega)
    have hzs15 := Es15.size
    refine lx_nil ?_
    refine wk_ret ?_
    refine retM0 ?_
    refine retR2 Tryd.results51 (.cell rfl (run_loadVar_blk1 ag_84 (Bs14.ne Es15 (by omega)) rfl)) (.cell rfl (run_loadVar_blk1 ag_25 Bs15 rfl)) F43 ?_
    exact open_range (by have := not_one h20; omega)

end Go.Proofs.YtlfclnkoimfhmaaDoor

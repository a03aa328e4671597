/- What functions of the cube compute: moves, left, odd, rd1. -/
import Derived.Test.YtlfclnkoimfhmaaDoorFacts
import Derived.Test.YtlfclnkoimfhmaaDoorPre
import Derived.Test.YtlfclnkoimfhmaaDoorWalk4
import Derived.Test.YtlfclnkoimfhmaaDoorWalk6
import Derived.Test.YtlfclnkoimfhmaaDoorWalk7
import Derived.Test.YtlfclnkoimfhmaaDoorWalk8
import Derived.Test.YtlfclnkoimfhmaaDoorWalk9
set_option linter.unusedVariables false
set_option linter.unusedSimpArgs false
namespace Go.Proofs.YtlfclnkoimfhmaaDoor
open Go Go.RowKit Go.Mix Go.Eng
theorem moves_ct (d r : Int) (L : List (List Pk)) (s : Option Addr) (c : Nat) (G : Nat → Prop) (w0 : World) (hL : BufS G w0 s L) :
    CT Tryd.prog 32 [.agg #[.int .i64 d, .int .i64 r, .slice s L.length c]] w0 no (fun v w => MovesQ w0.heap.size d r L v w) := by
  have F0 := Fr.refl no w0
  refine ct_body Tryd.func32 rfl Tryd.ntmps32 (Nat.le_of_ble_eq_true rfl) ?_
  refine wk_seq ?_
  refine wk_region ?_
  refine lx_new (want rfl) (rn_box (t_agg rfl)) ?_
  intro b1 w1 hb1 Eb1 B1 hlb1
  have F1 := F0.ext Eb1
  have hzb1 := Eb1.size
  refine lx_value (want rfl) (as_slice rfl) ?_
  refine lx_value (want rfl) (as_int rfl) ?_
  refine lx_nil ?_
  refine wk_seq ?_
  refine wk_seq ?_
  refine wk_region ?_
  refine lx_value (want rfl) (rn_loadBlk ag_24 sz_24 rfl B1 rfl rfl) ?_
  refine lx_call (want rfl) (ent_func cf_27 (argsC (t_agg rfl) args0)) (check_ct _ _ _ _ _ _ w1 (hL.fr (buf_stab _) F1 (fun _ _ h => h))) ?_
  rintro _ w2 E1 rfl
  have F2 := F1.ext E1
  have hz1 := E1.size
  refine lx_value (want rfl) (as_int rfl) ?_
  refine lx_nil ?_
  refine wk_seq ?_
  refine wk_region ?_
  refine lx_value (want rfl) (mv_int rfl) ?_
  refine lx_value (want rfl) (rn_neq rfl rfl) ?_
  refine lx_dec (fun h1 => ?_) (fun h1 => ?_)
  ·
    refine lx_nil ?_
    refine wk_cond_t rfl ?_
    refine wk_seq ?_
    refine wk_region ?_
    refine lx_value (want rfl) (mv_int rfl) ?_
    refine lx_value (want rfl) (as_slice rfl) ?_
    refine lx_value (want rfl) (as_int rfl) ?_
    refine lx_nil ?_
    refine wk_ret ?_
    refine retR2 Tryd.results32 (.tmp (t_slice rfl)) (.tmp (t_int rfl)) F2 ?_
    exact moves_bad h1
  ·
    obtain ⟨dim, rfl, hV⟩ := chk_zero (Decidable.not_not.1 h1)
    have hd := hV.hd
    have hnL := hV.len
    have h32 := prod_le hd
    refine lx_nil ?_
    refine wk_cond_f rfl ?_
    refine wk_skip ?_
    refine wk_seq ?_
    refine wk_region ?_
    refine lx_value (want rfl) (as_slice rfl) ?_
    refine lx_nil ?_
    refine wk_seq ?_
    refine wk_seq ?_
    refine wk_region ?_
    refine lx_value (want rfl) (as_int rfl) ?_
    refine lx_nil ?_
    refine wk_block ?_
    refine wk_loopA [5, 6, 12, 13, 14, 15, 16, 17, 18, 19, 20, 21, 22, 23, 24, 25, 26, 27, 28, 29, 30, 31, 32, 33, 34, 35] no (fun nM ρ w => ∃ (i : Nat) (so1_1 : Option Addr) (co1_1 : Nat), nM = L.length - i ∧ ρ 6 = .int .i64 i ∧ ρ 5 = .slice so1_1 ((movesL dim r L i).length) co1_1 ∧ OwnS w 45 2 so1_1 ((movesL dim r L i).length) co1_1 ((movesL dim r L i).flatMap mvC) ∧ (∀ k, ob so1_1 k → w0.heap.size ≤ k) ∧ (∀ k, ob so1_1 k → (ob (none : Option Addr) k ∨ w2.heap.size ≤ k)) ∧ (i ≤ L.length)) _ ⟨0, none, 0, rfl, rfl, rfl, (OwnS.nil w2 45 2), (fun _ h => ob_none h), (fun k h => .inl h), by omega⟩ ?_
    rintro n1 ρ1 w3 A1 EL1 ⟨i, so1_1, co1_1, rfl, hs1_6, ho1_1, ow1L_1, ge1L_1, bk1L_1, hi⟩
    have F3 := F2.ext EL1
    have hzL1 := EL1.size
    have nl1_1_1 : ∀ k, ob so1_1 k → k ≠ b1 := fun k hk => (bk1L_1 k hk).elim ((fun _ h => ob_none h) k) (fun h => by have := ((B1.ext E1)).lt; omega)
    have hml := moves_len dim r L i
    refine wk_seq ?_
    refine wk_seq ?_
    refine wk_region ?_
    refine lx_value (want rfl) (mv_int hs1_6) ?_
    refine lx_value (want rfl) (rn_fieldAddr fa_24_2 (A1.at 1 rfl rfl)) ?_
    refine lx_value (want rfl) (rn_load1Blk ag_22 rfl ((B1.ext E1).ext EL1) rfl) ?_
    refine lx_value (want rfl) (rn_len Tryd.underlying22 rfl) ?_
    refine lx_value (want rfl) (rn_lss rfl rfl) ?_
    refine lx_dec (fun hlt => ?_) (fun hlt => ?_)
    ·
      obtain ⟨l, hl⟩ := getx hlt
      obtain ⟨bx, ox, rfl, _, sx, cx, hcx, hpx⟩ := hL i l hl
      refine lx_nil ?_
      refine wk_cond_t rfl ?_
      refine wk_skip ?_
      refine wk_seq ?_
      refine wk_block ?_
      refine wk_seq ?_
      refine wk_region ?_
      refine lx_value (want rfl) (rn_loadBlk ag_24 sz_24 (A1.at 1 rfl rfl) ((B1.ext E1).ext EL1) rfl rfl) ?_
      refine lx_value (want rfl) (mv_int hs1_6) ?_
      refine lx_call (want rfl) (ent_func cf_63 (argsC (t_agg rfl) (argsC (t_int rfl) args0))) (able_ct dim r L _ _ _ hV i l hl w3 (hL.fr (buf_stab _) F3 (fun _ _ h => h))) ?_
      rintro _ w4 E2 rfl
      have F4 := F3.ext E2
      have hz2 := E2.size
      refine lx_split (fun hab => ?_) (fun hab => ?_)
      ·
        refine lx_nil ?_
        refine wk_cond_t rfl ?_
        have hOw := (ow1L_1.ext E2)
        have hSl : ∀ k, (ob so1_1) k → k < w4.heap.size := fun k h => ((ow1L_1.ext E2)).lt h
        refine wk_mixA 14 13 (ob so1_1) (fun kS => match kS with | 12 => .any (fun I v w => ∃ b, v = .slice (some ⟨b, 0, none⟩) 1 1 ∧ w4.heap.size ≤ b ∧ (I.1 ≤ b ∧ b < I.2) ∧ Blk w b [.int .i64 ((i / (dim + 1) : Nat) : Int), .int .i64 ((i % (dim + 1) : Nat) : Int)] 45) | 13 => .any (fun I v w => ∃ s c, v = .slice s ((movesL dim r L i).length + 1) c ∧ OwnS w 45 2 s ((movesL dim r L i).length + 1) c (((movesL dim r L i).flatMap mvC) ++ [.int .i64 ((i / (dim + 1) : Nat) : Int), .int .i64 ((i % (dim + 1) : Nat) : Int)]) ∧ ∀ k, ob s k → (ob so1_1 k ∨ w4.heap.size ≤ k)) | _ => .none) (by kernel_rfl) (by kernel_rfl) (by intro kS G hk; (try dsimp only at hk); (split at hk) <;> first | (cases hk; done) | (injection hk with hk; subst hk; exact ⟨by intro j hkj I v w w' hR hG; first | exact hG | (obtain ⟨b, h1, h2, hI, h3⟩ := hG; exact ⟨b, h1, h2, hI, h3.fr (mS hR) (fun hs => by have := hOw.lt hs; omega)⟩) | (obtain ⟨s, c, h1, h2, h3⟩ := hG; exact ⟨s, c, h1, h2.ext (mT hkj hR), h3⟩), fun ⟨_, _, _, _, hs⟩ => by (try dsimp only at hs); split at hs <;> cases hs⟩)) (by intro kS s y G hk; (try dsimp only at hk); split at hk <;> cases hk) ?_
        simp only [List.take_succ_cons, List.take_zero, List.take_nil, List.drop_succ_cons, List.drop_zero, List.drop_nil]
        refine mx_calm rfl (want rfl) (fun u1 eu1 fu1 => mv_slice ho1_1) ?_
        refine mx_calm rfl (want rfl) (fun u2 eu2 fu2 => mv_int hs1_6) ?_
        refine mx_calm rfl (want rfl) (fun u3 eu3 fu3 => rn_fieldAddr fa_24_0 (A1.at 1 rfl rfl)) ?_
        refine mx_calm rfl (want rfl) (fun u4 eu4 fu4 => rn_load1Blk ag_3 rfl ((((B1.ext E1).ext EL1).ext E2).fr (mD (by decide) eu4) (fun h => nl1_1_1 _ h rfl)) rfl) ?_
        refine mx_calm rfl (want rfl) (fun u5 eu5 fu5 => rn_addN rfl (n := 1) rfl (by omega)) ?_
        refine mx_calm rfl (want rfl) (fun u6 eu6 fu6 => rn_quoN rfl rfl (by omega)) ?_
        refine mx_calm rfl (want rfl) (fun u7 eu7 fu7 => mv_int hs1_6) ?_
        refine mx_calm rfl (want rfl) (fun u8 eu8 fu8 => rn_fieldAddr fa_24_0 (A1.at 1 rfl rfl)) ?_
        refine mx_calm rfl (want rfl) (fun u9 eu9 fu9 => rn_load1Blk ag_3 rfl ((((B1.ext E1).ext EL1).ext E2).fr (mD (by decide) eu9) (fun h => nl1_1_1 _ h rfl)) rfl) ?_
        refine mx_calm rfl (want rfl) (fun u10 eu10 fu10 => rn_addN rfl (n := 1) rfl (by omega)) ?_
        refine mx_calm rfl (want rfl) (fun u11 eu11 fu11 => rn_remN rfl rfl (by omega)) ?_
        refine mx_calm rfl (want rfl) (fun u12 eu12 fu12 => rn_build2 (t_int rfl) (t_int rfl) (fun w => bd_45_0_1 _ _ w)) ?_
        refine mx_any rfl rfl (want rfl) (fun u13 eu13 fu13 => (do_newS2 (rn_bslice (xs := [.tmp 33]) Tryd.underlying46 sz_45 ze_45 rfl (argsC (t_agg rfl) args0) (CL.cons rfl rfl CL.nil) rfl (Nat.le_of_ble_eq_true rfl)) (show _ ≤ _ from ((mD (by decide) eu13)).size)).mono (fun v w' h => ⟨(mE (by decide) h.1), h.2⟩)) (fun I34 v34 => ?_)
        refine mx_any rfl rfl (want rfl) (fun u14 eu14 fu14 => by obtain ⟨bS, rfl, hbS, _, hBS⟩ := fu14 34 _ rfl (show (34 : Nat) ∈ _ from by decide); exact do_append 16 Tryd.underlying46 ti_45 (by decide) rfl (by decide) rfl rfl ((ow1L_1.ext E2).ext (mC eu14)) (Src.blk hBS rfl rfl) (by omega) (fun sA cA wA AP => ⟨(mF AP.fr), ⟨sA, cA, rfl, AP.own, fun k hk => (AP.blk k hk).elim .inl (fun h => .inr (Nat.le_trans (mC eu14).size h))⟩⟩)) (fun I35 v35 => ?_)
        refine mx_nil (fun w5 E3' H1 HS => ?_)
        have E3 := mG E3'
        have hI35 := (HS.1 35 _ rfl).2
        have hI34 := (HS.1 34 _ rfl).2
        have hX35_34 := HS.2 35 _ 34 _ rfl rfl (show (35 : Nat) ≠ 34 from by decide)
        simp only at hI35
        simp only at hI34
        simp only at hX35_34
        have g35 := H1 35 _ rfl
        obtain ⟨sq2, cq2, rfl, hO2, hI2⟩ := g35
        have g34 := H1 34 _ rfl
        have AP2 : Apd w4 _ _ so1_1 _ _ sq2 cq2 w5 := ⟨hO2, E3, hI2⟩
        have EA2 := AP2.fr
        have ow2 := AP2.own
        have ge2 : ∀ k, ob sq2 k → w0.heap.size ≤ k := fun k hk => (AP2.blk k hk).elim (ge1L_1 k) (fun h => Nat.le_trans F4.size h)
        have ne2_1 : ∀ k, ob sq2 k → k ≠ b1 := fun k hk => (AP2.blk k hk).elim (nl1_1_1 k) (fun h => by have := ((((B1.ext E1).ext EL1).ext E2)).lt; omega)
        have bk2_1 : ∀ k, ob sq2 k → (ob (none : Option Addr) k ∨ w2.heap.size ≤ k) := fun k hk => (AP2.blk k hk).elim (bk1L_1 k) (fun h => .inr (by omega))
        have F5 := F4.new EA2 ge1L_1
        have hzA2 := EA2.size
        have BA2_1 := (((B1.ext E1).ext EL1).ext E2).fr EA2 (fun h => nl1_1_1 _ h rfl)
        refine lx_value (want rfl) (as_slice rfl) ?_
        refine lx_nil ?_
        refine wk_region ?_
        refine lx_value (want rfl) (mv_int hs1_6) ?_
        refine lx_value (want rfl) (rn_add rfl rfl (by omega)) ?_
        refine lx_value (want rfl) (as_int rfl) ?_
        refine lx_nil ?_
        exact ⟨rfl, ((((((((((((((((((((((((((A1.up rfl _).up rfl _).up rfl _).up rfl _).up rfl _).up rfl _).up rfl _).up rfl _).up rfl _).up rfl _).up rfl _).up rfl _).up rfl _).up rfl _).up rfl _).up rfl _).up rfl _).up rfl _).up rfl _).up rfl _).up rfl _).up rfl _).up rfl _).up rfl _).up rfl _).up rfl _), (Fr.trans (Fr.ext EL1 E2) EA2 (fun i hi1 h => ((bk1L_1 _ h).elim (fun h => (ob_none h)) (fun h => absurd hi1 (by omega))))), _, (by omega), i + 1, sq2, cq2, rfl, rfl, (by first | (rw [moves_step_t hab, List.length_append]; exact rfl) | (rw [moves_step_f hab]; exact rfl)), (by first | (rw [moves_step_t hab, List.length_append]; exact own_snocM ow2) | (rw [moves_step_f hab]; exact ow2)), ge2, bk2_1, by omega⟩
      ·
        refine lx_nil ?_
        refine wk_cond_f rfl ?_
        refine wk_skip ?_
        refine wk_region ?_
        refine lx_value (want rfl) (mv_int hs1_6) ?_
        refine lx_value (want rfl) (rn_add rfl rfl (by omega)) ?_
        refine lx_value (want rfl) (as_int rfl) ?_
        refine lx_nil ?_
        exact ⟨rfl, (((((((((((A1.up rfl _).up rfl _).up rfl _).up rfl _).up rfl _).up rfl _).up rfl _).up rfl _).up rfl _).up rfl _).up rfl _), (Fr.ext EL1 E2), _, (by omega), i + 1, so1_1, co1_1, rfl, rfl, (by first | (rw [moves_step_t hab, List.length_append]; exact ho1_1) | (rw [moves_step_f hab]; exact ho1_1)), (by first | (rw [moves_step_t hab, List.length_append]; exact own_snocM (ow1L_1.ext E2)) | (rw [moves_step_f hab]; exact (ow1L_1.ext E2))), ge1L_1, bk1L_1, by omega⟩
    ·
      refine lx_nil ?_
      refine wk_cond_f rfl ?_
      refine wk_exit ?_
      refine wk_seq ?_
      refine wk_region ?_
      refine lx_value (want rfl) (mv_slice ho1_1) ?_
      refine lx_value (want rfl) (as_slice rfl) ?_
      refine lx_value (want rfl) (as_int rfl) ?_
      refine lx_nil ?_
      refine wk_ret ?_
      refine retR2 Tryd.results32 (.tmp (t_slice rfl)) (.tmp (t_int rfl)) F3 ?_
      exact moves_ok hV ow1L_1 rfl hi hlt ge1L_1

theorem left_ct (d r : Int) (L : List (List Pk)) (s : Option Addr) (c : Nat) (G : Nat → Prop) (w0 : World) (hL : BufS G w0 s L) :
    CT Tryd.prog 26 [.agg #[.int .i64 d, .int .i64 r, .slice s L.length c]] w0 no (fun v _ => v = .tuple #[.int .i64 (leftQ d r L : Nat), .int .i64 (chkE d r L)]) := by
  have F0 := Fr.refl no w0
  refine ct_body Tryd.func26 rfl Tryd.ntmps26 (Nat.le_of_ble_eq_true rfl) ?_
  refine wk_seq ?_
  refine wk_region ?_
  refine lx_new (want rfl) (rn_box (t_agg rfl)) ?_
  intro b1 w1 hb1 Eb1 B1 hlb1
  have F1 := F0.ext Eb1
  have hzb1 := Eb1.size
  refine lx_value (want rfl) (as_int rfl) ?_
  refine lx_value (want rfl) (as_int rfl) ?_
  refine lx_nil ?_
  refine wk_seq ?_
  refine wk_seq ?_
  refine wk_region ?_
  refine lx_value (want rfl) (rn_loadBlk ag_24 sz_24 rfl B1 rfl rfl) ?_
  refine lx_call (want rfl) (ent_func cf_27 (argsC (t_agg rfl) args0)) (check_ct _ _ _ _ _ _ w1 (hL.fr (buf_stab _) F1 (fun _ _ h => h))) ?_
  rintro _ w2 E1 rfl
  have F2 := F1.ext E1
  have hz1 := E1.size
  refine lx_value (want rfl) (as_int rfl) ?_
  refine lx_nil ?_
  refine wk_seq ?_
  refine wk_region ?_
  refine lx_value (want rfl) (mv_int rfl) ?_
  refine lx_value (want rfl) (rn_neq rfl rfl) ?_
  refine lx_dec (fun h1 => ?_) (fun h1 => ?_)
  ·
    refine lx_nil ?_
    refine wk_cond_t rfl ?_
    refine wk_seq ?_
    refine wk_region ?_
    refine lx_value (want rfl) (mv_int rfl) ?_
    refine lx_value (want rfl) (as_int rfl) ?_
    refine lx_value (want rfl) (as_int rfl) ?_
    refine lx_nil ?_
    refine wk_ret ?_
    refine retR2 Tryd.results26 (.tmp (t_int rfl)) (.tmp (t_int rfl)) F2 ?_
    exact left_bad h1
  ·
    obtain ⟨dim, rfl, hV⟩ := chk_zero (Decidable.not_not.1 h1)
    have hd := hV.hd
    have hnL := hV.len
    have h32 := prod_le hd
    refine lx_nil ?_
    refine wk_cond_f rfl ?_
    refine wk_skip ?_
    refine wk_seq ?_
    refine wk_region ?_
    refine lx_value (want rfl) (as_int rfl) ?_
    refine lx_nil ?_
    refine wk_seq ?_
    refine wk_seq ?_
    refine wk_region ?_
    refine lx_value (want rfl) (as_int rfl) ?_
    refine lx_nil ?_
    refine wk_block ?_
    refine wk_loopA [5, 6, 7, 13, 14, 15, 16, 17, 18, 19, 20, 21, 22, 23, 24, 25, 26, 27, 28, 29, 30, 31, 32, 33, 34, 35, 36, 37, 38, 39, 40, 41, 42, 43, 44, 45, 46, 47] no (fun nM ρ w => ∃ (i : Nat), nM = L.length - i ∧ ρ 5 = .int .i64 (leftN dim L i : Nat) ∧ ρ 6 = .int .i64 i ∧ (i ≤ L.length)) _ ⟨0, rfl, rfl, rfl, by omega⟩ ?_
    rintro n1 ρ1 w3 A1 EL1 ⟨i, rfl, hs1_5, hs1_6, hi⟩
    have F3 := F2.ext EL1
    have hzL1 := EL1.size
    have hle := leftN_le (dim := dim) (fun n l h => hV.le8 h) hi
    refine wk_seq ?_
    refine wk_seq ?_
    refine wk_region ?_
    refine lx_value (want rfl) (mv_int hs1_6) ?_
    refine lx_value (want rfl) (rn_fieldAddr fa_24_2 (A1.at 1 rfl rfl)) ?_
    refine lx_value (want rfl) (rn_load1Blk ag_22 rfl ((B1.ext E1).ext EL1) rfl) ?_
    refine lx_value (want rfl) (rn_len Tryd.underlying22 rfl) ?_
    refine lx_value (want rfl) (rn_lss rfl rfl) ?_
    refine lx_dec (fun hlt => ?_) (fun hlt => ?_)
    ·
      obtain ⟨l, hl⟩ := getx hlt
      obtain ⟨bx, ox, rfl, _, sx, cx, hcx, hpx⟩ := hL i l hl
      have hl8 := hV.le8 hl
      obtain ⟨hn1, hn2, hn3, hn4⟩ := hV.at hl
      refine lx_nil ?_
      refine wk_cond_t rfl ?_
      refine wk_skip ?_
      refine wk_seq ?_
      refine wk_block ?_
      refine wk_seq ?_
      refine wk_region ?_
      refine lx_value (want rfl) (as_int rfl) ?_
      refine lx_nil ?_
      refine wk_block ?_
      refine wk_loopA [5, 7, 20, 21, 22, 23, 24, 25, 26, 27, 28, 29, 30, 31, 32, 33, 34, 35, 36, 37, 38, 39, 40, 41, 42, 43, 44, 45, 46, 47] no (fun nM ρ w => ∃ (k : Nat), nM = l.length - k ∧ ρ 5 = .int .i64 (leftN dim L i + leftB dim i (l.take k) : Nat) ∧ ρ 7 = .int .i64 k ∧ (k ≤ l.length)) _ ⟨0, rfl, (by rw [show leftB dim i (l.take 0) = 0 from rfl, Nat.add_zero]; exact hs1_5), rfl, by omega⟩ ?_
      rintro n2 ρ2 w4 A2 EL2 ⟨k, rfl, hs2_5, hs2_7, hk⟩
      have F4 := F3.ext EL2
      have hzL2 := EL2.size
      have hlb := leftB_le dim i (l.take k)
      have hlt2 : (l.take k).length ≤ 8 := by rw [List.length_take]; omega
      refine wk_seq ?_
      refine wk_seq ?_
      refine wk_region ?_
      refine lx_value (want rfl) (mv_int hs2_7) ?_
      refine lx_value (want rfl) (rn_fieldAddr fa_24_2 (A2.at 1 rfl (A1.at 1 rfl rfl))) ?_
      refine lx_value (want rfl) (rn_load1Blk ag_22 rfl (((B1.ext E1).ext EL1).ext EL2) rfl) ?_
      refine lx_value (want rfl) (mv_int (A2.at 6 rfl hs1_6)) ?_
      refine lx_value (want rfl) (rn_index _ Tryd.underlying22 sz_49 rfl rfl rfl (by omega)) ?_
      refine lx_value (want rfl) (rn_load1 ag_49 rfl (F4.cell (fun h => h) hcx)) ?_
      refine lx_value (want rfl) (rn_len Tryd.underlying49 rfl) ?_
      refine lx_value (want rfl) (rn_lss rfl rfl) ?_
      refine lx_dec (fun hlk => ?_) (fun hlk => ?_)
      ·
        obtain ⟨p, hp⟩ := getx hlk
        obtain ⟨by_, oy, rfl, _, hcy⟩ := hpx k p hp
        obtain ⟨pa, pb, hpe, hpa, hpb⟩ := can_in ((hV.buf hl).2 p (List.mem_of_getElem? hp))
        obtain ⟨p1, p2, p3⟩ := p
        injection hpe with e1 hpe
        injection hpe with e2 e3
        subst e1
        subst e2
        have hwl := way_len (i / (dim + 1)) pb
        have h28 := pow2_le dim (Nat.le_refl _) hd
        refine lx_nil ?_
        refine wk_cond_t rfl ?_
        refine wk_skip ?_
        refine wk_seq ?_
        refine wk_block ?_
        refine wk_mix 17 (fun kS => match kS with | 15 => .any (fun I v w => IntR w4.heap.size w v (wayL (i / (dim + 1)) pb)) | _ => .none) (by kernel_rfl) (by kernel_rfl) (by intro kS G hk; (try dsimp only at hk); (split at hk) <;> first | (cases hk; done) | (injection hk with hk; subst hk; exact ⟨by intro j hkj I v w w' hR hG; first | exact hG | (exact IntR.ext hG hR), fun ⟨_, _, _, _, hs⟩ => by (try dsimp only at hs); split at hs <;> cases hs⟩)) (by intro kS s y G hk; (try dsimp only at hk); split at hk <;> cases hk) ?_
        simp only [List.take_succ_cons, List.take_zero, List.take_nil, List.drop_succ_cons, List.drop_zero, List.drop_nil]
        refine mx_calm rfl (want rfl) (fun u1 eu1 fu1 => mv_int hs2_5) ?_
        refine mx_calm rfl (want rfl) (fun u2 eu2 fu2 => mv_int (A2.at 6 rfl hs1_6)) ?_
        refine mx_calm rfl (want rfl) (fun u3 eu3 fu3 => rn_fieldAddr fa_24_0 (A2.at 1 rfl (A1.at 1 rfl rfl))) ?_
        refine mx_calm rfl (want rfl) (fun u4 eu4 fu4 => rn_load1Blk ag_3 rfl ((((B1.ext E1).ext EL1).ext EL2).ext ((ext_drawn _).trans' eu4)) rfl) ?_
        refine mx_calm rfl (want rfl) (fun u5 eu5 fu5 => rn_addN rfl (n := 1) rfl (by omega)) ?_
        refine mx_calm rfl (want rfl) (fun u6 eu6 fu6 => rn_quoN rfl rfl (by omega)) ?_
        refine mx_calm rfl (want rfl) (fun u7 eu7 fu7 => rn_fieldAddr fa_24_2 (A2.at 1 rfl (A1.at 1 rfl rfl))) ?_
        refine mx_calm rfl (want rfl) (fun u8 eu8 fu8 => rn_load1Blk ag_22 rfl ((((B1.ext E1).ext EL1).ext EL2).ext ((ext_drawn _).trans' eu8)) rfl) ?_
        refine mx_calm rfl (want rfl) (fun u9 eu9 fu9 => mv_int (A2.at 6 rfl hs1_6)) ?_
        refine mx_calm rfl (want rfl) (fun u10 eu10 fu10 => rn_index _ Tryd.underlying22 sz_49 rfl rfl rfl (by omega)) ?_
        refine mx_calm rfl (want rfl) (fun u11 eu11 fu11 => rn_load1 ag_49 rfl ((F4.ext ((ext_drawn _).trans' eu11)).cell (fun h => h) hcx)) ?_
        refine mx_calm rfl (want rfl) (fun u12 eu12 fu12 => mv_int hs2_7) ?_
        refine mx_calm rfl (want rfl) (fun u13 eu13 fu13 => rn_index _ Tryd.underlying49 sz_41 rfl rfl rfl (by omega)) ?_
        refine mx_calm rfl (want rfl) (fun u14 eu14 fu14 => rn_fieldAddr fa_41_1 rfl) ?_
        refine mx_calm rfl (want rfl) (fun u15 eu15 fu15 => rn_load1 ag_3 rfl ((F4.ext ((ext_drawn _).trans' eu15)).cell (fun h => h) (hcy 1 _ rfl))) ?_
        refine mx_any rfl rfl (want rfl) (fun u16 eu16 fu16 => do_call (ent_func cf_50 (argsC (t_int rfl) (argsC (t_int rfl) args0))) (walk_ct (i / (dim + 1)) pb (by omega) (by omega) u16) (fun v w' E h => ⟨E, h.wide (show _ ≤ _ from ((ext_drawn _).trans' eu16).size)⟩)) (fun I45 v45 => ?_)
        refine mx_calm (v := .int .i64 ((wayL (i / (dim + 1)) pb).length : Nat)) rfl (want rfl) (fun u17 eu17 fu17 => by obtain ⟨sW, cW, rfl, hW⟩ := fu17 45 _ rfl (show (45 : Nat) ∈ _ from by decide); exact rn_len Tryd.underlying28 rfl) ?_
        refine mx_nil (fun w5 E2' H1 HS => ?_)
        have E2 := (ext_drawn _).trans' E2'
        have F5 := F4.ext E2
        have hz2 := E2.size
        have hI45 := (HS.1 45 _ rfl).2
        simp only at hI45
        have g45 := H1 45 _ rfl
        refine lx_value (want rfl) (rn_addN rfl rfl (by omega)) ?_
        refine lx_value (want rfl) (as_int rfl) ?_
        refine lx_nil ?_
        refine wk_region ?_
        refine lx_value (want rfl) (mv_int hs2_7) ?_
        refine lx_value (want rfl) (rn_add rfl rfl (by omega)) ?_
        refine lx_value (want rfl) (as_int rfl) ?_
        refine lx_nil ?_
        exact ⟨rfl, ((((((((((((((((((((((((((((((A2.up rfl _).up rfl _).up rfl _).up rfl _).up rfl _).up rfl _).up rfl _).up rfl _).up rfl _).up rfl _).up rfl _).up rfl _).up rfl _).up rfl _).up rfl _).up rfl _).up rfl _).up rfl _).up rfl _).up rfl _).up rfl _).up rfl _).up rfl _).up rfl _).up rfl _).up rfl _).up rfl _).up rfl _).up rfl _).up rfl _), (Fr.ext EL2 E2), _, (by omega), k + 1, rfl, (by rw [leftB_step hp, ← Nat.add_assoc]; simp only [wayN, Int.toNat_natCast]; exact rfl), rfl, by omega⟩
      ·
        refine lx_nil ?_
        refine wk_cond_f rfl ?_
        refine wk_exit ?_
        refine wk_region ?_
        refine lx_value (want rfl) (mv_int (A2.at 6 rfl hs1_6)) ?_
        refine lx_value (want rfl) (rn_add rfl rfl (by omega)) ?_
        refine lx_value (want rfl) (as_int rfl) ?_
        refine lx_nil ?_
        exact ⟨rfl, ((((((((((((((((((A1.up rfl _).up rfl _).up rfl _).up rfl _).up rfl _).up rfl _).loop A2 rfl).up rfl _).up rfl _).up rfl _).up rfl _).up rfl _).up rfl _).up rfl _).up rfl _).up rfl _).up rfl _).up rfl _), (Fr.ext EL1 EL2), _, (by omega), i + 1, rfl, (by rw [leftN_step hl]; have h := hs2_5; rw [List.take_of_length_le (by omega)] at h; exact h), rfl, by omega⟩
    ·
      refine lx_nil ?_
      refine wk_cond_f rfl ?_
      refine wk_exit ?_
      refine wk_seq ?_
      refine wk_region ?_
      refine lx_value (want rfl) (mv_int hs1_5) ?_
      refine lx_value (want rfl) (as_int rfl) ?_
      refine lx_value (want rfl) (as_int rfl) ?_
      refine lx_nil ?_
      refine wk_ret ?_
      refine retR2 Tryd.results26 (.tmp (t_int rfl)) (.tmp (t_int rfl)) F3 ?_
      exact left_ok hV hi hlt

theorem odd_ct (p1 p2 p3 : Int) (b1 b2 bc dim : Nat) (r : Int) (s : Option Addr) (n c x y : Nat) (hd : dim ≤ 3) (hx : x < 2 ^ dim) (hy : y ≤ dim) (w0 : World) (hT : Tb w0 1) (B1 : Blk w0 b1 [.pointer (some ⟨bc, 0, none⟩)] 84) (BC : Blk w0 bc [.int .i64 dim, .int .i64 r, .slice s n c] 76) (B2 : Blk w0 b2 [.int .i64 x, .int .i64 y] 82) :
    CT Tryd.prog 81 [.agg #[.int .i64 p1, .int .i64 p2, .int .i64 p3], .pointer (some ⟨b1, 0, none⟩), .pointer (some ⟨b2, 0, none⟩)] w0 no (fun v _ => v = .bool (!(canB dim (p1, p2, p3) x y))) := by
  have h28 := pow2_le dim (Nat.le_refl _) hd
  have hT1 := hT.lt
  have hB1l := B1.lt
  have hB2l := B2.lt
  have hBCl := BC.lt
  have F0 := Fr.refl no w0
  refine ct_body Tryd.func81 rfl Tryd.ntmps81 (Nat.le_of_ble_eq_true rfl) ?_
  refine wk_seq ?_
  refine wk_region ?_
  refine lx_new (want rfl) (rn_box (t_agg rfl)) ?_
  intro b21 w1 hb21 Eb21 B21 hlb21
  have F1 := F0.ext Eb21
  have hzb21 := Eb21.size
  refine lx_value (want rfl) (as_bool rfl) ?_
  refine lx_nil ?_
  refine wk_seq ?_
  refine wk_mix 17 (fun kS => match kS with | 7 => .any (fun I v w => ∃ b, v = .slice (some ⟨b, 0, none⟩) 2 2 ∧ w1.heap.size ≤ b ∧ (I.1 ≤ b ∧ b < I.2) ∧ Blk w b [.int .i64 p1, .int .i64 p2] 3) | 8 => .val (.bool (inB 0 ((2 ^ dim - 1 : Nat) : Int) [p1, p2])) | 16 => .val (.bool ((spotsL p1.toNat p2.toNat dim).any (isSp x y))) | _ => .none) (by kernel_rfl) (by kernel_rfl) (by intro kS G hk; (try dsimp only at hk); (split at hk) <;> first | (cases hk; done) | (injection hk with hk; subst hk; exact ⟨by intro j hkj I v w w' hR hG; first | exact hG | (obtain ⟨b, h1, h2, hI, h3⟩ := hG; exact ⟨b, h1, h2, hI, h3.ext hR⟩), fun ⟨_, _, _, _, hs⟩ => by (try dsimp only at hs); split at hs <;> cases hs⟩)) (by intro kS s y G hk; (try dsimp only at hk); split at hk <;> cases hk) ?_
  simp only [List.take_succ_cons, List.take_zero, List.take_nil, List.drop_succ_cons, List.drop_zero, List.drop_nil]
  refine mx_calm rfl (want rfl) (fun u1 eu1 fu1 => rn_load1Blk ag_84 rfl ((B1.ext Eb21).ext ((ext_drawn _).trans' eu1)) rfl) ?_
  refine mx_calm rfl (want rfl) (fun u2 eu2 fu2 => rn_nilCheck rfl) ?_
  refine mx_calm rfl (want rfl) (fun u3 eu3 fu3 => rn_loadBlk ag_76 sz_76 rfl ((BC.ext Eb21).ext ((ext_drawn _).trans' eu3)) rfl rfl) ?_
  refine mx_calm rfl (want rfl) (fun u4 eu4 fu4 => rn_fieldAddr fa_41_0 rfl) ?_
  refine mx_calm rfl (want rfl) (fun u5 eu5 fu5 => rn_load1Blk ag_3 rfl (B21.ext ((ext_drawn _).trans' eu5)) rfl) ?_
  refine mx_calm rfl (want rfl) (fun u6 eu6 fu6 => rn_fieldAddr fa_41_1 rfl) ?_
  refine mx_calm rfl (want rfl) (fun u7 eu7 fu7 => rn_load1Blk ag_3 rfl (B21.ext ((ext_drawn _).trans' eu7)) rfl) ?_
  refine mx_any rfl rfl (want rfl) (fun u8 eu8 fu8 => (do_newS2 (rn_bslice (xs := [.tmp 9, .tmp 11]) Tryd.underlying28 sz_3 ze_3 rfl (argsC (t_int rfl) (argsC (t_int rfl) args0)) (CL.cons rfl rfl (CL.cons rfl rfl CL.nil)) rfl (Nat.le_of_ble_eq_true rfl)) (show _ ≤ _ from (((ext_drawn _).trans' eu8)).size)).mono (fun v w' h => ⟨h.1, h.2⟩)) (fun I12 v12 => ?_)
  refine mx_val rfl (want rfl) (fun u9 eu9 fu9 => by obtain ⟨bA, rfl, hbA, _, hBA⟩ := fu9 12 _ rfl (show (12 : Nat) ∈ _ from by decide); exact do_call (ent_func cf_48 (argsC (t_agg rfl) (argsC (t_slice rfl) args0))) (isswitch_ct dim r s n c hd [p1, p2] _ _ _ u9 (blk_ints [p1, p2] hBA) (by simp)) (fun _ _ E h => ⟨E, h⟩)) ?_
  refine mx_split (fun h13 => ?_) (fun h13 => ?_)
  ·
    obtain ⟨a, b, rfl, rfl, ha, hb⟩ := in_sw h13
    refine mx_calm rfl (want rfl) (fun u10 eu10 fu10 => rn_not rfl) ?_
    refine mx_calm rfl (want rfl) (fun u11 eu11 fu11 => mv_bool rfl) ?_
    refine mx_calm rfl (want_if (j := 10) (d := 15) (x := false) (y := false) rfl rfl (by decide) rfl) (fun u12 eu12 fu12 => rn_load1Blk ag_84 rfl ((B1.ext Eb21).ext ((ext_drawn _).trans' eu12)) rfl) ?_
    refine mx_calm rfl (want_if (j := 10) (d := 15) (x := false) (y := false) rfl rfl (by decide) rfl) (fun u13 eu13 fu13 => rn_nilCheck rfl) ?_
    refine mx_calm rfl (want_if (j := 10) (d := 15) (x := false) (y := false) rfl rfl (by decide) rfl) (fun u14 eu14 fu14 => rn_loadBlk ag_76 sz_76 rfl ((BC.ext Eb21).ext ((ext_drawn _).trans' eu14)) rfl rfl) ?_
    refine mx_calm rfl (want_if (j := 10) (d := 15) (x := false) (y := false) rfl rfl (by decide) rfl) (fun u15 eu15 fu15 => rn_loadBlk ag_41 sz_41 rfl (B21.ext ((ext_drawn _).trans' eu15)) rfl rfl) ?_
    refine mx_calm rfl (want_if (j := 10) (d := 15) (x := false) (y := false) rfl rfl (by decide) rfl) (fun u16 eu16 fu16 => rn_loadBlk ag_82 sz_82 rfl ((B2.ext Eb21).ext ((ext_drawn _).trans' eu16)) rfl rfl) ?_
    refine mx_val rfl (want_if (j := 10) (d := 15) (x := false) (y := false) rfl rfl (by decide) rfl) (fun u17 eu17 fu17 => do_call (ent_func cf_82 (argsC (t_agg rfl) (argsC (t_agg rfl) (argsC (t_agg rfl) args0)))) (comes_ct dim r s n c hd a b p3 x y (by omega) (by omega) u17 ((hT.ext Eb21).ext ((ext_drawn _).trans' eu17))) (fun _ _ E h => ⟨E, (by rw [Int.toNat_natCast, Int.toNat_natCast]; exact h)⟩)) ?_
    refine mx_nil (fun w2 E1' H1 HS => ?_)
    have E1 := (ext_drawn _).trans' E1'
    have F2 := F1.ext E1
    have hz1 := E1.size
    have hI12 := (HS.1 12 _ rfl).2
    simp only at hI12
    have g12 := H1 12 _ rfl
    obtain ⟨bA, rfl, hbbA, hibA, hBbA⟩ := g12
    refine lx_value (want_if (j := 10) (d := 15) (x := false) (y := false) rfl rfl (by decide) rfl) (rn_not rfl) ?_
    refine lx_value (want rfl) (pick_f rfl rfl) ?_
    refine lx_value (want rfl) (as_bool rfl) ?_
    refine lx_nil ?_
    refine wk_ret ?_
    refine retR1 Tryd.results81 (.tmp (t_bool rfl)) F2 ?_
    exact odd_in hd ha hb hx hy
  ·
    refine mx_calm rfl (want rfl) (fun u18 eu18 fu18 => rn_not rfl) ?_
    refine mx_calm rfl (want rfl) (fun u19 eu19 fu19 => mv_bool rfl) ?_
    refine mx_skip (want_if (j := 10) (d := 15) (x := false) (y := true) rfl rfl (by decide) rfl) ?_
    refine mx_skip (want_if (j := 10) (d := 15) (x := false) (y := true) rfl rfl (by decide) rfl) ?_
    refine mx_skip (want_if (j := 10) (d := 15) (x := false) (y := true) rfl rfl (by decide) rfl) ?_
    refine mx_skip (want_if (j := 10) (d := 15) (x := false) (y := true) rfl rfl (by decide) rfl) ?_
    refine mx_skip (want_if (j := 10) (d := 15) (x := false) (y := true) rfl rfl (by decide) rfl) ?_
    refine mx_skip (want_if (j := 10) (d := 15) (x := false) (y := true) rfl rfl (by decide) rfl) ?_
    refine mx_nil (fun w2 E2' H2 HS => ?_)
    have E2 := (ext_drawn _).trans' E2'
    have F3 := F1.ext E2
    have hz2 := E2.size
    have hI12 := (HS.1 12 _ rfl).2
    simp only at hI12
    have g12 := H2 12 _ rfl
    obtain ⟨bA, rfl, hbbA, hibA, hBbA⟩ := g12
    refine lx_skip (want_if (j := 10) (d := 15) (x := false) (y := true) rfl rfl (by decide) rfl) ?_
    refine lx_value (want rfl) (pick_t rfl rfl) ?_
    refine lx_value (want rfl) (as_bool rfl) ?_
    refine lx_nil ?_
    refine wk_ret ?_
    refine retR1 Tryd.results81 (.tmp (t_bool rfl)) F3 ?_
    exact odd_out h13

theorem rd1_ct (b dim : Nat) (r : Int) (s : Option Addr) (c : Nat) (T : List (TE Pk)) (L : List (List Pk)) (hm : T.map (·.2.2) = L) (hV : Valid dim r L) (w0 : World) (hC : CubeP w0 b dim r s c T) (hT : Tb w0 1) (hT1 : ∀ k, tb s T k → k ≠ 1) :
    CT Tryd.prog 69 [.pointer (some ⟨b, 0, none⟩)] w0 (tb s T) (fun v w => ChgQ w0 b dim r s T (rdB dim r L L.length).2 0 (rdB dim r L L.length).1 v w) := by
  have hd := hV.hd
  have h28 := pow2_le dim (Nat.le_refl _) hd
  have hbl := hC.blk.lt
  have hTl := hT.lt
  have F0 := Fr.refl (tb s T) w0
  have tge : ∀ k, (tb s T) k → (tb s T) k ∨ w0.heap.size ≤ k := fun k h => .inl h
  refine ct_body Tryd.func69 rfl Tryd.ntmps69 (Nat.le_of_ble_eq_true rfl) ?_
  refine wk_seq ?_
  refine wk_region ?_
  refine lx_value (want rfl) (as_slice rfl) ?_
  refine lx_value (want rfl) (as_int rfl) ?_
  refine lx_nil ?_
  refine wk_seq ?_
  refine wk_region ?_
  refine lx_value (want rfl) (mv_pointer rfl) ?_
  refine lx_call (want rfl) (ent_func cf_68 (argsC (t_pointer rfl) args0)) (cround_ct b dim r s c T L hm hV w0 ⟨hC.blk, hC.tab, hC.ne⟩ hT hT1) ?_
  rintro _ w1 E1 ⟨s2, c2, T2, so, co, rfl, hC2, hm2, hG2, hP2⟩
  have F1 := F0.new' E1 (fun k h => tge k h)
  have hz1 := E1.size
  have tg1 : ∀ k, tb s2 T2 k → (tb s T) k ∨ w0.heap.size ≤ k := fun k hk => (hG2 k hk).elim (tge k) (fun h => .inr (by omega))
  have tn1_1 : ∀ k, tb s2 T2 k → k ≠ b := fun k hk => (hG2 k hk).elim (hC.ne k) (fun h => by have := (hC2.blk).lt; omega)
  have tn1_800 : ∀ k, tb s2 T2 k → k ≠ 1 := fun k hk => (hG2 k hk).elim (hT1 k) (fun h => by have := (hT).lt; omega)
  refine lx_value (want rfl) (as_slice rfl) ?_
  refine lx_value (want rfl) (as_int rfl) ?_
  refine lx_nil ?_
  refine wk_ret ?_
  refine retR2 Tryd.results69 (.tmp (t_slice rfl)) (.tmp (t_int rfl)) F1 ?_
  exact rd1_ok ⟨s2, c2, T2, so, co, rfl, ⟨hC2.blk, hC2.tab, tn1_1⟩, hm2, tg1, hP2⟩

end Go.Proofs.YtlfclnkoimfhmaaDoor

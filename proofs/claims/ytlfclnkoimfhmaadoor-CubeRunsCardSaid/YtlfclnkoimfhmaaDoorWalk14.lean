/- What functions of the cube compute: refrun, refrounds. -/
import Derived.Test.YtlfclnkoimfhmaaDoorFacts
import Derived.Test.YtlfclnkoimfhmaaDoorPre
import Derived.Test.YtlfclnkoimfhmaaDoorWalk1
import Derived.Test.YtlfclnkoimfhmaaDoorWalk10
import Derived.Test.YtlfclnkoimfhmaaDoorWalk12
import Derived.Test.YtlfclnkoimfhmaaDoorWalk2
import Derived.Test.YtlfclnkoimfhmaaDoorWalk5
import Derived.Test.YtlfclnkoimfhmaaDoorWalk8
set_option linter.unusedVariables false
set_option linter.unusedSimpArgs false
namespace Go.Proofs.YtlfclnkoimfhmaaDoor
open Go Go.RowKit Go.Mix Go.Eng
set_option maxHeartbeats 1000000 in
set_option maxRecDepth 100000 in
theorem refrun_ct (d r : Int) (L : List (List Pk)) (s : Option Addr) (c : Nat) (G : Nat → Prop) (picks : List Int) (sp : Option Addr) (cp : Nat) (Fp : Nat → Prop) (w0 : World) (hL : BufS G w0 s L) (hP : IntS Fp w0 sp picks) :
    CT Tryd.prog 36 [.agg #[.int .i64 d, .int .i64 r, .slice s L.length c], .slice sp picks.length cp] w0 no (fun v w => RunQ w0.heap.size d r L picks v w) := by
  have F0 := Fr.refl no w0
  refine ct_body Tryd.func36 rfl Tryd.ntmps36 (Nat.le_of_ble_eq_true rfl) ?_
  refine wk_seq ?_
  refine wk_region ?_
  refine lx_new (want rfl) (rn_box (t_agg rfl)) ?_
  intro b1 w1 hb1 Eb1 B1 hlb1
  have F1 := F0.ext Eb1
  have hzb1 := Eb1.size
  refine lx_value (want rfl) (as_slice rfl) ?_
  refine lx_value (want rfl) (as_int rfl) ?_
  refine lx_value (want rfl) (as_int rfl) ?_
  refine lx_nil ?_
  refine wk_seq ?_
  refine wk_seq ?_
  refine wk_region ?_
  refine lx_value (want rfl) (rn_loadBlk ag_24 sz_24 rfl B1 rfl rfl) ?_
  refine lx_call (want rfl) (ent_func cf_27 (argsC (t_agg rfl) args0)) (check_ct _ _ _ _ _ _ w1 (hL.fr (buf_stab _) F1 (fun _ _ h => h))) ?_
  rintro _ w2 E1 rfl
  have F2 := F1.ext E1
  have hz1 := E1.size
  refine lx_value (want rfl) (as_int rfl) ?_
  refine lx_nil ?_
  refine wk_seq ?_
  refine wk_region ?_
  refine lx_value (want rfl) (mv_int rfl) ?_
  refine lx_value (want rfl) (rn_neq rfl rfl) ?_
  refine lx_dec (fun h1 => ?_) (fun h1 => ?_)
  ·
    refine lx_nil ?_
    refine wk_cond_t rfl ?_
    refine wk_seq ?_
    refine wk_region ?_
    refine lx_value (want rfl) (mv_int rfl) ?_
    refine lx_value (want rfl) (as_slice rfl) ?_
    refine lx_value (want rfl) (as_int rfl) ?_
    refine lx_value (want rfl) (as_int rfl) ?_
    refine lx_nil ?_
    refine wk_ret ?_
    refine retR3 Tryd.results36 (.tmp (t_slice rfl)) (.tmp (t_int rfl)) (.tmp (t_int rfl)) F2 ?_
    exact run_err (runE_chk h1) h1
  ·
    obtain ⟨dim, rfl, hV⟩ := chk_zero (Decidable.not_not.1 h1)
    have hd := hV.hd
    have hnL := hV.len
    have h32 := prod_le hd
    refine lx_nil ?_
    refine wk_cond_f rfl ?_
    refine wk_skip ?_
    refine wk_seq ?_
    refine wk_seq ?_
    refine wk_region ?_
    refine lx_value (want rfl) (mv_slice rfl) ?_
    refine lx_value (want rfl) (rn_len Tryd.underlying28 rfl) ?_
    refine lx_value (want rfl) (rn_gtr rfl rfl) ?_
    refine lx_dec (fun h60 => ?_) (fun h60 => ?_)
    ·
      refine lx_nil ?_
      refine wk_cond_t rfl ?_
      refine wk_seq ?_
      refine wk_region ?_
      refine lx_value (want rfl) (as_slice rfl) ?_
      refine lx_value (want rfl) (as_int rfl) ?_
      refine lx_value (want rfl) (as_int rfl) ?_
      refine lx_nil ?_
      refine wk_ret ?_
      refine retR3 Tryd.results36 (.tmp (t_slice rfl)) (.tmp (t_int rfl)) (.tmp (t_int rfl)) F2 ?_
      exact run_err (runE_many hV h60) (by decide)
    ·
      refine lx_nil ?_
      refine wk_cond_f rfl ?_
      refine wk_skip ?_
      refine wk_seq ?_
      refine wk_seq ?_
      refine wk_region ?_
      refine lx_value (want rfl) (as_int rfl) ?_
      refine lx_nil ?_
      refine wk_block ?_
      refine wk_loopA [4, 5, 6, 8, 24, 25, 26, 27, 28, 29, 30, 31, 32, 33, 34] no (fun nM ρ w => ∃ (i : Nat), nM = picks.length - i ∧ ρ 8 = .int .i64 i ∧ (i ≤ picks.length) ∧ ((picks.take i).all (fun z => decide (0 ≤ z)) = true)) _ ⟨0, rfl, rfl, by omega, rfl⟩ ?_
      rintro n1 ρ1 w3 A1 EL1 ⟨i, rfl, hs1_8, hi, hq⟩
      have F3 := F2.ext EL1
      have hzL1 := EL1.size
      refine wk_seq ?_
      refine wk_seq ?_
      refine wk_region ?_
      refine lx_value (want rfl) (mv_int hs1_8) ?_
      refine lx_value (want rfl) (mv_slice (A1.at 1 rfl rfl)) ?_
      refine lx_value (want rfl) (rn_len Tryd.underlying28 rfl) ?_
      refine lx_value (want rfl) (rn_lss rfl rfl) ?_
      refine lx_dec (fun hlp => ?_) (fun hlp => ?_)
      ·
        obtain ⟨z, hz⟩ := getx hlp
        obtain ⟨bx, ox, rfl, _, hcx⟩ := hP i z hz
        refine lx_nil ?_
        refine wk_cond_t rfl ?_
        refine wk_skip ?_
        refine wk_seq ?_
        refine wk_block ?_
        refine wk_seq ?_
        refine wk_region ?_
        refine lx_value (want rfl) (mv_slice (A1.at 1 rfl rfl)) ?_
        refine lx_value (want rfl) (mv_int hs1_8) ?_
        refine lx_value (want rfl) (rn_index _ Tryd.underlying28 sz_3 rfl rfl rfl (by omega)) ?_
        refine lx_value (want rfl) (rn_load1 ag_3 rfl (F3.cell (fun h => h) (hcx 0 _ rfl))) ?_
        refine lx_value (want rfl) (rn_lss rfl rfl) ?_
        refine lx_dec (fun hneg => ?_) (fun hneg => ?_)
        ·
          refine lx_nil ?_
          refine wk_cond_t rfl ?_
          refine wk_seq ?_
          refine wk_region ?_
          refine lx_value (want rfl) (as_slice rfl) ?_
          refine lx_value (want rfl) (as_int rfl) ?_
          refine lx_value (want rfl) (as_int rfl) ?_
          refine lx_nil ?_
          refine wk_ret ?_
          refine retR3 Tryd.results36 (.tmp (t_slice rfl)) (.tmp (t_int rfl)) (.tmp (t_int rfl)) F3 ?_
          exact run_err (runE_neg hV h60 hz hneg) (by decide)
        ·
          refine lx_nil ?_
          refine wk_cond_f rfl ?_
          refine wk_skip ?_
          refine wk_region ?_
          refine lx_value (want rfl) (mv_int hs1_8) ?_
          refine lx_value (want rfl) (rn_add rfl rfl (by omega)) ?_
          refine lx_value (want rfl) (as_int rfl) ?_
          refine lx_nil ?_
          exact ⟨rfl, ((((((((((((A1.up rfl _).up rfl _).up rfl _).up rfl _).up rfl _).up rfl _).up rfl _).up rfl _).up rfl _).up rfl _).up rfl _).up rfl _), EL1, _, (by omega), i + 1, rfl, rfl, by omega, (all_step hq hz (by simp; omega))⟩
      ·
        have hpos := all_end hq hlp
        refine lx_nil ?_
        refine wk_cond_f rfl ?_
        refine wk_exit ?_
        refine wk_seq ?_
        refine wk_region ?_
        refine lx_value (want rfl) (as_slice rfl) ?_
        refine lx_nil ?_
        refine wk_seq ?_
        refine wk_region ?_
        refine lx_value (want rfl) (as_int rfl) ?_
        refine lx_nil ?_
        refine wk_seq ?_
        refine wk_seq ?_
        refine wk_region ?_
        refine lx_value (want rfl) (rn_loadBlk ag_24 sz_24 (A1.at 2 rfl rfl) ((B1.ext E1).ext EL1) rfl rfl) ?_
        refine lx_call (want rfl) (ent_func cf_32 (argsC (t_agg rfl) args0)) (movesV hV (moves_ct _ _ _ _ _ _ w3 (hL.fr (buf_stab _) F3 (fun _ _ h => h)))) ?_
        rintro _ w4 E2 ⟨sM0, cM0, rfl, hM0⟩
        have F4 := F3.ext E2
        have hz2 := E2.size
        have hB0 := hL.lt.fr (buf_stab _) F4 (fun _ _ h => h)
        have hle := leftN_le (dim := dim) (fun n l h => hV.le8 h) (Nat.le_refl L.length)
        refine lx_value (want rfl) (mv_tuple rfl) ?_
        refine lx_value (want rfl) (rn_extract rfl rfl) ?_
        refine lx_value (want rfl) (rn_extract rfl rfl) ?_
        refine lx_value (want rfl) (as_slice rfl) ?_
        refine lx_value (want rfl) (as_int rfl) ?_
        refine lx_nil ?_
        refine wk_block ?_
        refine wk_loopA [9, 10, 11, 13, 14, 15, 40, 41, 42, 43, 44, 45, 46, 47, 48, 49, 50, 51, 52, 53, 54, 55, 56, 57, 58, 59, 60, 61, 62, 63, 64, 65, 66, 67, 68, 69, 70, 71, 72, 73, 74, 75, 76, 77, 78, 79, 80, 81, 82] (fun j => no j ∨ w0.heap.size ≤ j) (fun nM ρ w => ∃ (L2 : List (List Pk)) (m : Nat) (o : List Pk) (sL : Option Addr) (cL : Nat) (sM : Option Addr) (cM : Nat) (so2_9 : Option Addr) (co2_9 : Nat), nM = leftN dim L2 L2.length ∧ ρ 10 = .int .i64 m ∧ ρ 11 = .slice sM (movesL dim r L2 L2.length).length cM ∧ Blk w b1 [.int .i64 dim, .int .i64 r, .slice sL L2.length cL] 24 ∧ ρ 9 = .slice so2_9 (o.length) co2_9 ∧ OwnS w 41 3 so2_9 (o.length) co2_9 (o.flatMap pkC) ∧ (∀ k, ob so2_9 k → w0.heap.size ≤ k) ∧ (∀ k, ob so2_9 k → k ≠ b1) ∧ (BufS (fun j => j < w.heap.size ∧ j ≠ b1 ∧ ¬ ob so2_9 j) w sL L2) ∧ (MvS (fun j => j < w.heap.size ∧ j ≠ b1 ∧ ¬ ob so2_9 j) w sM (movesL dim r L2 L2.length)) ∧ (Valid dim r L2) ∧ (runF dim r picks (leftN dim L2 L2.length) L2 m o = runF dim r picks (leftN dim L L.length) L 0 []) ∧ (o.length ≤ m) ∧ (m + leftN dim L2 L2.length = leftN dim L L.length)) _ ⟨L, 0, [], _, _, sM0, cM0, none, 0, rfl, rfl, rfl, (((B1.ext E1).ext EL1).ext E2), rfl, ((OwnS.nil w3 41 3).ext E2), (fun _ h => ob_none h), (fun _ h => ob_none h), BufS.wide hB0 (fun k hk => ⟨by have := hk.2; omega, by have := hk.2; omega, fun h => ob_none h⟩), MvS.on hM0 (Fr.refl no _) (fun _ _ h => h) (fun k hk => ⟨hk.2, by have := hk.1; have := ((((B1.ext E1).ext EL1).ext E2)).lt; omega, fun h => ob_none h⟩), hV, rfl, by simp, by omega⟩ ?_
        rintro n2 ρ2 w5 A2 EL2 ⟨L2, m, o, sL, cL, sM, cM, so2_9, co2_9, rfl, hs2_10, hs2_11, BL2_1, ho2_9, ow2L_9, ge2L_9, ne2L_9_1, hB2, hM2, hV2, hrun, hom, hml⟩
        have F5 := F4.wide EL2
        have hzL2 := EL2.size
        refine wk_seq ?_
        refine wk_seq ?_
        refine wk_region ?_
        refine lx_value (want rfl) (mv_slice hs2_11) ?_
        refine lx_value (want rfl) (rn_len Tryd.underlying46 rfl) ?_
        refine lx_value (want rfl) (rn_gtr rfl rfl) ?_
        refine lx_dec (fun hlt => ?_) (fun hlt => ?_)
        ·
          have hne := ne_len hlt
          refine lx_nil ?_
          refine wk_cond_t rfl ?_
          refine wk_skip ?_
          refine wk_seq ?_
          refine wk_block ?_
          refine wk_seq ?_
          refine wk_region ?_
          refine lx_value (want rfl) (as_int rfl) ?_
          refine lx_nil ?_
          refine wk_seq ?_
          refine wk_seq ?_
          refine wk_region ?_
          refine lx_value (want rfl) (mv_int hs2_10) ?_
          refine lx_value (want rfl) (mv_slice (A2.at 1 rfl (A1.at 1 rfl rfl))) ?_
          refine lx_value (want rfl) (rn_len Tryd.underlying28 rfl) ?_
          refine lx_value (want rfl) (rn_lss rfl rfl) ?_
          refine lx_dec (fun hpk => ?_) (fun hpk => ?_)
          ·
            obtain ⟨z, hz⟩ := getx hpk
            obtain ⟨zn, rfl⟩ : ∃ k : Nat, z = (k : Int) := ⟨z.toNat, by have := all_at hpos hz; omega⟩
            obtain ⟨bp, op, rfl, _, hcp⟩ := hP m _ hz
            have hkI := congrArg (fun k : Nat => (k : Int)) (pick_some (dim := dim) (ms := (movesL dim r L2 L2.length)) hz).symm
            refine lx_nil ?_
            refine wk_cond_t rfl ?_
            refine wk_region ?_
            refine lx_value (want rfl) (mv_slice (A2.at 1 rfl (A1.at 1 rfl rfl))) ?_
            refine lx_value (want rfl) (mv_int hs2_10) ?_
            refine lx_value (want rfl) (rn_index m Tryd.underlying28 sz_3 rfl rfl rfl (by omega)) ?_
            refine lx_value (want rfl) (rn_load1 ag_3 rfl (F5.cell (fun h => h) (hcp 0 _ rfl))) ?_
            refine lx_value (want rfl) (mv_slice hs2_11) ?_
            refine lx_value (want rfl) (rn_len Tryd.underlying46 rfl) ?_
            refine lx_value (want rfl) (rn_remN rfl rfl (by omega)) ?_
            refine lx_value (want rfl) (as_int rfl) ?_
            refine lx_nil ?_
            refine wk_seq ?_
            have hlt9 : ∀ k, ob so2_9 k → k < w5.heap.size := fun k hk => (ow2L_9).lt hk
            have hb1lt := (BL2_1).lt
            have hkl := pick_mem (dim := dim) (picks := picks) (m := m) hne
            obtain ⟨x, hmx⟩ : ∃ x, (movesL dim r L2 L2.length)[pickN dim picks (movesL dim r L2 L2.length) m]? = some x := ⟨_, List.getElem?_eq_getElem hkl⟩
            obtain ⟨n, hnl, hab, rfl⟩ := moves_at hmx
            have hpa := pickAt_eq rfl hmx
            obtain ⟨⟨p1, p2, p3⟩, q, hn⟩ := able_some hab
            obtain ⟨hd1, hd2, hd3, hd4⟩ := hV2.at hn
            obtain ⟨bm, om, hsM, _, hcm⟩ := hM2 _ _ hmx
            subst hsM
            have hmo := movedO_len dim n (p1, p2, p3)
            refine wk_mix 20 (fun kS => match kS with | 13 => .val (.int .i64 (n : Nat)) | 14 => .any (fun I v w => w5.heap.size ≤ I.1 ∧ MovedI I dim r L2 n (p1, p2, p3) q v w) | 18 => .any (fun I v w => v = .pointer (some ⟨I.1, 0, none⟩) ∧ w5.heap.size ≤ I.1 ∧ I.1 < I.2 ∧ Blk w I.1 [.int .i64 0, .int .i64 0, .slice none 0 0] 24) | 19 => .sto 14 75 (fun J u w => J.1 < J.2 ∧ Blk w J.1 u.cells.toList 24) | _ => .none) (by kernel_rfl) (by kernel_rfl) (by intro kS G hk; (try dsimp only at hk); (split at hk) <;> first | (cases hk; done) | (injection hk with hk; subst hk; exact ⟨by intro j hkj I v w w' hR hG; first | exact hG | (exact ⟨hG.1, hG.2.fr hR (fun _ _ _ h => h)⟩) | (obtain ⟨h1, h2, hI, h3⟩ := hG; exact ⟨h1, h2, hI, h3.ext hR⟩), fun _ I v w w' hR hG => by first | exact hG | (exact ⟨hG.1, hG.2.fr hR (fun k h1 h2 h => h.2 ⟨h1, h2⟩)⟩) | (obtain ⟨h1, h2, hI, h3⟩ := hG; exact ⟨h1, h2, hI, h3.fr hR (fun h => h.2 ⟨Nat.le_refl _, hI⟩)⟩)⟩)) (by intro kS s y G hk; (try dsimp only at hk); (split at hk) <;> first | (cases hk; done) | (injection hk with hk1 hk2 hk3; subst hk1; subst hk2; subst hk3; exact ⟨by kernel_rfl, by intro j hkj I v w w' hR hG; exact ⟨hG.1, hG.2.ext hR⟩, fun I v w w' hR hG => ⟨hG.1, hG.2.fr hR (fun h => h.2 ⟨Nat.le_refl _, hG.1⟩)⟩⟩)) ?_
            simp only [List.take_succ_cons, List.take_zero, List.take_nil, List.drop_succ_cons, List.drop_zero, List.drop_nil]
            refine mx_calm rfl (want rfl) (fun u1 eu1 fu1 => rn_loadBlk ag_24 sz_24 (A2.at 2 rfl (A1.at 2 rfl rfl)) (BL2_1.ext ((ext_drawn _).trans' eu1)) rfl rfl) ?_
            refine mx_calm rfl (want rfl) (fun u2 eu2 fu2 => rn_fieldAddr fa_24_0 (A2.at 2 rfl (A1.at 2 rfl rfl))) ?_
            refine mx_calm rfl (want rfl) (fun u3 eu3 fu3 => rn_load1Blk ag_3 rfl (BL2_1.ext ((ext_drawn _).trans' eu3)) rfl) ?_
            refine mx_calm rfl (want rfl) (fun u4 eu4 fu4 => mv_slice hs2_11) ?_
            refine mx_calm rfl (want rfl) (fun u5 eu5 fu5 => mv_int rfl) ?_
            refine mx_calm rfl (want rfl) (fun u6 eu6 fu6 => rn_index (pickN dim picks (movesL dim r L2 L2.length) m) Tryd.underlying46 sz_45 rfl rfl hkI hkl) ?_
            refine mx_calm rfl (want rfl) (fun u7 eu7 fu7 => rn_fieldAddr fa_45_0 rfl) ?_
            refine mx_calm rfl (want rfl) (fun u8 eu8 fu8 => rn_load1 ag_3 rfl (((ext_drawn _).trans' eu8).cell (fun h => h) (hcm 0 _ rfl))) ?_
            refine mx_calm rfl (want rfl) (fun u9 eu9 fu9 => mv_slice hs2_11) ?_
            refine mx_calm rfl (want rfl) (fun u10 eu10 fu10 => mv_int rfl) ?_
            refine mx_calm rfl (want rfl) (fun u11 eu11 fu11 => rn_index (pickN dim picks (movesL dim r L2 L2.length) m) Tryd.underlying46 sz_45 rfl rfl hkI hkl) ?_
            refine mx_calm rfl (want rfl) (fun u12 eu12 fu12 => rn_fieldAddr fa_45_1 rfl) ?_
            refine mx_calm rfl (want rfl) (fun u13 eu13 fu13 => rn_load1 ag_3 rfl (((ext_drawn _).trans' eu13).cell (fun h => h) (hcm 1 _ rfl))) ?_
            refine mx_val rfl (want rfl) (fun u14 eu14 fu14 => do_call (ent_func cf_58 (argsC (t_int rfl) (argsC (t_int rfl) (argsC (t_int rfl) args0)))) (buffer_ct dim (n / (dim + 1)) (n % (dim + 1)) hd (by omega) (by omega) u14) (fun _ _ E h => ⟨E, (h.trans (by rw [div_mod_n]))⟩)) ?_
            refine mx_any rfl rfl (want rfl) (fun u15 eu15 fu15 => do_call (ent_func cf_64 (argsC (t_agg rfl) (argsC (t_int rfl) args0))) (moved_ct dim r L2 _ _ _ hV2 n p1 p2 p3 q hn u15 (hB2.fr (buf_stab _) ((ext_drawn _).trans' eu15) (fun _ _ h => h))) (fun v w' E h => ⟨E, ⟨((ext_drawn _).trans' eu15).size, h.in⟩⟩)) (fun I74 v74 => ?_)
            refine mx_calm (v := .tuple #[.agg #[.int .i64 dim, .int .i64 r, .slice (sad (aget (tget v74 0) 2)) (movedL dim L2 n (p1, p2, p3) q).length (scp (aget (tget v74 0) 2))], .slice (sad (tget v74 1)) (movedO dim n (p1, p2, p3)).length (scp (tget v74 1))]) rfl (want rfl) (fun u16 eu16 fu16 => by obtain ⟨_, sN, cN, so, co, rfl, _, _⟩ := fu16 74 _ rfl (show (74 : Nat) ∈ _ from by decide); exact rn_move rfl) ?_
            refine mx_calm rfl (want rfl) (fun u17 eu17 fu17 => rn_extract rfl rfl) ?_
            refine mx_calm rfl (want rfl) (fun u18 eu18 fu18 => rn_extract rfl rfl) ?_
            refine mx_any rfl rfl (want rfl) (fun u19 eu19 fu19 => (do_new3 (rn_alloc ze_24) (show _ ≤ _ from (((ext_drawn _).trans' eu19)).size)).mono (fun v w' h => ⟨h.1, h.2⟩)) (fun I14 v14 => ?_)
            refine mx_sto rfl rfl rfl rfl (want rfl) (fun u20 eu20 fu20 _ => by obtain ⟨rfl, hl14, hi14, hB14⟩ := fu20 14 _ rfl (show (14 : Nat) ∈ _ from by decide); exact (do_sto sz_24 rfl rfl rfl rfl rfl hB14 rfl ⟨Nat.le_refl _, hi14⟩).mono (fun v w' h => ⟨h.1, h.2.1, hi14, h.2.2⟩)) ?_
            refine mx_nil (fun w6 E3' H1 HS => ?_)
            have E3 := (ext_drawn _).trans' E3'
            have F6 := F5.ext E3
            have hz3 := E3.size
            have hI14 := (HS.1 14 _ rfl).2
            have hI74 := (HS.1 74 _ rfl).2
            have hX14_74 := HS.2 14 _ 74 _ rfl rfl (show (14 : Nat) ≠ 74 from by decide)
            simp only at hI14
            simp only at hI74
            simp only at hX14_74
            have g14 := H1 14 _ rfl
            obtain ⟨⟨_, hv14, hb14, _, _⟩, hi14, hB14⟩ := g14; subst hv14; have hlb14 := hB14.lt
            have g74 := H1 74 _ rfl
            obtain ⟨hI0, sN, cN, so, co, rfl, hBN, hPN⟩ := g74
            have nb1 : ∀ k, ob so2_9 k → k ≠ I14.1 := fun k hk => by have := (ow2L_9).lt hk; omega
            refine lx_value (want rfl) (as_slice rfl) ?_
            refine lx_nil ?_
            refine wk_seq ?_
            have hOw := (ow2L_9.ext E3)
            have hSl : ∀ k, (ob so2_9) k → k < w6.heap.size := fun k h => ((ow2L_9.ext E3)).lt h
            refine wk_mixA 4 3 (ob so2_9) (fun kS => match kS with | 3 => .any (fun I v w => ∃ s c, v = .slice s (o.length + (movedO dim n (p1, p2, p3)).length) c ∧ OwnS w 41 3 s (o.length + (movedO dim n (p1, p2, p3)).length) c ((o.flatMap pkC) ++ (movedO dim n (p1, p2, p3)).flatMap pkC) ∧ ∀ k, ob s k → (ob so2_9 k ∨ w6.heap.size ≤ k)) | _ => .none) (by kernel_rfl) (by kernel_rfl) (by intro kS G hk; (try dsimp only at hk); (split at hk) <;> first | (cases hk; done) | (injection hk with hk; subst hk; exact ⟨by intro j hkj I v w w' hR hG; first | exact hG | (obtain ⟨s, c, h1, h2, h3⟩ := hG; exact ⟨s, c, h1, h2.ext (mT hkj hR), h3⟩), fun ⟨_, _, _, _, hs⟩ => by (try dsimp only at hs); split at hs <;> cases hs⟩)) (by intro kS s y G hk; (try dsimp only at hk); split at hk <;> cases hk) ?_
            simp only [List.take_succ_cons, List.take_zero, List.take_nil, List.drop_succ_cons, List.drop_zero, List.drop_nil]
            refine mx_calm rfl (want rfl) (fun u21 eu21 fu21 => rn_loadBlk ag_24 sz_24 rfl (hB14.fr (mD (by decide) eu21) (fun h => nb1 _ h rfl)) rfl rfl) ?_
            refine mx_calm rfl (want rfl) (fun u22 eu22 fu22 => mv_slice ho2_9) ?_
            refine mx_calm rfl (want rfl) (fun u23 eu23 fu23 => mv_slice rfl) ?_
            refine mx_any rfl rfl (want rfl) (fun u24 eu24 fu24 => do_append 24 Tryd.underlying49 ti_41 (by decide) rfl (by decide) rfl rfl ((ow2L_9.ext E3).ext (mC eu24)) ((hPN.fr (pk_stab _) (mC eu24) (fun _ _ h => h)).src (fun _ _ => rfl) (fun _ _ u hu => pk_one hu) (by decide)) (by omega) (fun sA cA wA AP => ⟨(mF AP.fr), ⟨sA, cA, rfl, AP.own, fun k hk => (AP.blk k hk).elim .inl (fun h => .inr (Nat.le_trans (mC eu24).size h))⟩⟩)) (fun I80 v80 => ?_)
            refine mx_nil (fun w7 E4' H2 HS => ?_)
            have E4 := mG E4'
            have hI80 := (HS.1 80 _ rfl).2
            simp only at hI80
            have g80 := H2 80 _ rfl
            obtain ⟨sq2, cq2, rfl, hO2, hI2⟩ := g80
            have AP2 : Apd w6 _ _ so2_9 _ _ sq2 cq2 w7 := ⟨hO2, E4, hI2⟩
            have EA2 := AP2.fr
            have ow2 := AP2.own
            have ge2 : ∀ k, ob sq2 k → w0.heap.size ≤ k := fun k hk => (AP2.blk k hk).elim (ge2L_9 k) (fun h => Nat.le_trans F6.size h)
            have ne2_1 : ∀ k, ob sq2 k → k ≠ b1 := fun k hk => (AP2.blk k hk).elim (ne2L_9_1 k) (fun h => by have := ((BL2_1.ext E3)).lt; omega)
            have ne2_1014 : ∀ k, ob sq2 k → k ≠ I14.1 := fun k hk => (AP2.blk k hk).elim (nb1 k) (fun h => by have := (hB14).lt; omega)
            have F7 := F6.new EA2 ge2L_9
            have hzA2 := EA2.size
            have BA2_1 := (BL2_1.ext E3).fr EA2 (fun h => ne2L_9_1 _ h rfl)
            have BA2_1014 := hB14.fr EA2 (fun h => nb1 _ h rfl)
            have hq9 := AP2.blk
            refine lx_set (want rfl) sz_24 (A2.at 2 rfl (A1.at 2 rfl rfl)) (t_agg rfl) rfl rfl rfl BA2_1 (Nat.le_of_ble_eq_true rfl) ?_
            intro w8 Es1 Bs1
            have F8 := F7.set Es1 (by omega)
            have hzs1 := Es1.size
            refine lx_value (want rfl) (as_slice rfl) ?_
            refine lx_nil ?_
            refine wk_region ?_
            refine lx_value (want rfl) (mv_int hs2_10) ?_
            refine lx_value (want rfl) (rn_addN rfl (n := 1) rfl (by omega)) ?_
            refine lx_value (want rfl) (as_int rfl) ?_
            refine lx_nil ?_
            refine wk_region ?_
            have hB3 := BufS.on (F' := fun j => j < w8.heap.size ∧ j ≠ b1 ∧ ¬ ob sq2 j) hBN (Fr.trans (Fr.trans (Fr.refl (fun k => ob so2_9 k ∨ k = b1) w6) EA2 (fun k _ h => (.inl h))) Es1 (fun k _ h => (.inr h))) (fun k hk hlt h => h.elim (fun h => by have := hlt9 k h; have := hk.1; omega) (fun h => by have := hk.1; omega)) (fun k hk hlt => ⟨by omega, by have := hk.1; omega, fun h => (hq9 k h).elim (fun h => by have := hlt9 k h; have := hk.1; omega) (fun h => by have := hk.2; omega)⟩)
            have hV3 := (moved_valid hV2 hn hab).1
            have hlt10 : ∀ k, ob sq2 k → k < w8.heap.size := fun k hk => ((ow2.ne Es1 (fun h => ne2_1 _ h rfl))).lt hk
            refine lx_value (want rfl) (rn_loadBlk ag_24 sz_24 (A2.at 2 rfl (A1.at 2 rfl rfl)) Bs1 rfl rfl) ?_
            refine lx_call (want rfl) (ent_func cf_32 (argsC (t_agg rfl) args0)) (movesV hV3 (moves_ct _ _ _ _ _ _ w8 hB3)) ?_
            rintro _ w9 E5 ⟨sM3, cM3, rfl, hM3⟩
            have F9 := F8.ext E5
            have hz5 := E5.size
            refine lx_value (want rfl) (mv_tuple rfl) ?_
            refine lx_value (want rfl) (rn_extract rfl rfl) ?_
            refine lx_value (want rfl) (rn_extract rfl rfl) ?_
            refine lx_value (want rfl) (as_slice rfl) ?_
            refine lx_nil ?_
            have hlen3 : (movedL dim L2 n (p1, p2, p3) q).length = L2.length := by rw [hV3.len, hV2.len]
            have hdec := (moved_valid hV2 hn hab).2
            exact ⟨rfl, ((((((((((((((((((((((((((((((((((((((((((((((((((((A2.up rfl _).up rfl _).up rfl _).up rfl _).up rfl _).up rfl _).up rfl _).up rfl _).up rfl _).up rfl _).up rfl _).up rfl _).up rfl _).up rfl _).up rfl _).up rfl _).up rfl _).up rfl _).up rfl _).up rfl _).up rfl _).up rfl _).up rfl _).up rfl _).up rfl _).up rfl _).up rfl _).up rfl _).up rfl _).up rfl _).up rfl _).up rfl _).up rfl _).up rfl _).up rfl _).none _).up rfl _).up rfl _).up rfl _).up rfl _).up rfl _).none _).up rfl _).up rfl _).up rfl _).up rfl _).up rfl _).up rfl _).up rfl _).up rfl _).up rfl _).up rfl _), Fr.between F4 F9 (by omega), _, (by rw [hlen3]; omega), movedL dim L2 n (p1, p2, p3) q, m + 1, o ++ movedO dim n (p1, p2, p3), sN, cN, sM3, cM3, sq2, cq2, rfl, rfl, rfl, (Bs1.ext E5), (by rw [List.length_append]; exact rfl), (by rw [List.length_append]; exact own_app ((ow2.ne Es1 (fun h => ne2_1 _ h rfl)).ext E5)), ge2, ne2_1, BufS.on hB3 (Fr.ext (Fr.refl no w8) E5) (fun _ _ _ h => h) (fun k hk hlt => ⟨by omega, hk.2⟩), MvS.on hM3 (Fr.refl no _) (fun _ _ h => h) (fun k hk => ⟨hk.2, by have := hk.1; omega, fun h => by have := hlt10 k h; have := hk.1; omega⟩), hV3, run_step hV2 hn hab hpa hne hrun, by rw [List.length_append]; omega, by rw [hlen3]; omega⟩
          ·
            have hkI := congrArg (fun k : Nat => (k : Int)) (pick_none (dim := dim) (ms := (movesL dim r L2 L2.length)) hpk).symm
            refine lx_nil ?_
            refine wk_cond_f rfl ?_
            refine wk_skip ?_
            refine wk_seq ?_
            have hlt9 : ∀ k, ob so2_9 k → k < w5.heap.size := fun k hk => (ow2L_9).lt hk
            have hb1lt := (BL2_1).lt
            have hkl := pick_mem (dim := dim) (picks := picks) (m := m) hne
            obtain ⟨x, hmx⟩ : ∃ x, (movesL dim r L2 L2.length)[pickN dim picks (movesL dim r L2 L2.length) m]? = some x := ⟨_, List.getElem?_eq_getElem hkl⟩
            obtain ⟨n, hnl, hab, rfl⟩ := moves_at hmx
            have hpa := pickAt_eq rfl hmx
            obtain ⟨⟨p1, p2, p3⟩, q, hn⟩ := able_some hab
            obtain ⟨hd1, hd2, hd3, hd4⟩ := hV2.at hn
            obtain ⟨bm, om, hsM, _, hcm⟩ := hM2 _ _ hmx
            subst hsM
            have hmo := movedO_len dim n (p1, p2, p3)
            refine wk_mix 20 (fun kS => match kS with | 13 => .val (.int .i64 (n : Nat)) | 14 => .any (fun I v w => w5.heap.size ≤ I.1 ∧ MovedI I dim r L2 n (p1, p2, p3) q v w) | 18 => .any (fun I v w => v = .pointer (some ⟨I.1, 0, none⟩) ∧ w5.heap.size ≤ I.1 ∧ I.1 < I.2 ∧ Blk w I.1 [.int .i64 0, .int .i64 0, .slice none 0 0] 24) | 19 => .sto 14 75 (fun J u w => J.1 < J.2 ∧ Blk w J.1 u.cells.toList 24) | _ => .none) (by kernel_rfl) (by kernel_rfl) (by intro kS G hk; (try dsimp only at hk); (split at hk) <;> first | (cases hk; done) | (injection hk with hk; subst hk; exact ⟨by intro j hkj I v w w' hR hG; first | exact hG | (exact ⟨hG.1, hG.2.fr hR (fun _ _ _ h => h)⟩) | (obtain ⟨h1, h2, hI, h3⟩ := hG; exact ⟨h1, h2, hI, h3.ext hR⟩), fun _ I v w w' hR hG => by first | exact hG | (exact ⟨hG.1, hG.2.fr hR (fun k h1 h2 h => h.2 ⟨h1, h2⟩)⟩) | (obtain ⟨h1, h2, hI, h3⟩ := hG; exact ⟨h1, h2, hI, h3.fr hR (fun h => h.2 ⟨Nat.le_refl _, hI⟩)⟩)⟩)) (by intro kS s y G hk; (try dsimp only at hk); (split at hk) <;> first | (cases hk; done) | (injection hk with hk1 hk2 hk3; subst hk1; subst hk2; subst hk3; exact ⟨by kernel_rfl, by intro j hkj I v w w' hR hG; exact ⟨hG.1, hG.2.ext hR⟩, fun I v w w' hR hG => ⟨hG.1, hG.2.fr hR (fun h => h.2 ⟨Nat.le_refl _, hG.1⟩)⟩⟩)) ?_
            simp only [List.take_succ_cons, List.take_zero, List.take_nil, List.drop_succ_cons, List.drop_zero, List.drop_nil]
            refine mx_calm rfl (want rfl) (fun u25 eu25 fu25 => rn_loadBlk ag_24 sz_24 (A2.at 2 rfl (A1.at 2 rfl rfl)) (BL2_1.ext ((ext_drawn _).trans' eu25)) rfl rfl) ?_
            refine mx_calm rfl (want rfl) (fun u26 eu26 fu26 => rn_fieldAddr fa_24_0 (A2.at 2 rfl (A1.at 2 rfl rfl))) ?_
            refine mx_calm rfl (want rfl) (fun u27 eu27 fu27 => rn_load1Blk ag_3 rfl (BL2_1.ext ((ext_drawn _).trans' eu27)) rfl) ?_
            refine mx_calm rfl (want rfl) (fun u28 eu28 fu28 => mv_slice hs2_11) ?_
            refine mx_calm rfl (want rfl) (fun u29 eu29 fu29 => mv_int rfl) ?_
            refine mx_calm rfl (want rfl) (fun u30 eu30 fu30 => rn_index (pickN dim picks (movesL dim r L2 L2.length) m) Tryd.underlying46 sz_45 rfl rfl hkI hkl) ?_
            refine mx_calm rfl (want rfl) (fun u31 eu31 fu31 => rn_fieldAddr fa_45_0 rfl) ?_
            refine mx_calm rfl (want rfl) (fun u32 eu32 fu32 => rn_load1 ag_3 rfl (((ext_drawn _).trans' eu32).cell (fun h => h) (hcm 0 _ rfl))) ?_
            refine mx_calm rfl (want rfl) (fun u33 eu33 fu33 => mv_slice hs2_11) ?_
            refine mx_calm rfl (want rfl) (fun u34 eu34 fu34 => mv_int rfl) ?_
            refine mx_calm rfl (want rfl) (fun u35 eu35 fu35 => rn_index (pickN dim picks (movesL dim r L2 L2.length) m) Tryd.underlying46 sz_45 rfl rfl hkI hkl) ?_
            refine mx_calm rfl (want rfl) (fun u36 eu36 fu36 => rn_fieldAddr fa_45_1 rfl) ?_
            refine mx_calm rfl (want rfl) (fun u37 eu37 fu37 => rn_load1 ag_3 rfl (((ext_drawn _).trans' eu37).cell (fun h => h) (hcm 1 _ rfl))) ?_
            refine mx_val rfl (want rfl) (fun u38 eu38 fu38 => do_call (ent_func cf_58 (argsC (t_int rfl) (argsC (t_int rfl) (argsC (t_int rfl) args0)))) (buffer_ct dim (n / (dim + 1)) (n % (dim + 1)) hd (by omega) (by omega) u38) (fun _ _ E h => ⟨E, (h.trans (by rw [div_mod_n]))⟩)) ?_
            refine mx_any rfl rfl (want rfl) (fun u39 eu39 fu39 => do_call (ent_func cf_64 (argsC (t_agg rfl) (argsC (t_int rfl) args0))) (moved_ct dim r L2 _ _ _ hV2 n p1 p2 p3 q hn u39 (hB2.fr (buf_stab _) ((ext_drawn _).trans' eu39) (fun _ _ h => h))) (fun v w' E h => ⟨E, ⟨((ext_drawn _).trans' eu39).size, h.in⟩⟩)) (fun I74 v74 => ?_)
            refine mx_calm (v := .tuple #[.agg #[.int .i64 dim, .int .i64 r, .slice (sad (aget (tget v74 0) 2)) (movedL dim L2 n (p1, p2, p3) q).length (scp (aget (tget v74 0) 2))], .slice (sad (tget v74 1)) (movedO dim n (p1, p2, p3)).length (scp (tget v74 1))]) rfl (want rfl) (fun u40 eu40 fu40 => by obtain ⟨_, sN, cN, so, co, rfl, _, _⟩ := fu40 74 _ rfl (show (74 : Nat) ∈ _ from by decide); exact rn_move rfl) ?_
            refine mx_calm rfl (want rfl) (fun u41 eu41 fu41 => rn_extract rfl rfl) ?_
            refine mx_calm rfl (want rfl) (fun u42 eu42 fu42 => rn_extract rfl rfl) ?_
            refine mx_any rfl rfl (want rfl) (fun u43 eu43 fu43 => (do_new3 (rn_alloc ze_24) (show _ ≤ _ from (((ext_drawn _).trans' eu43)).size)).mono (fun v w' h => ⟨h.1, h.2⟩)) (fun I14 v14 => ?_)
            refine mx_sto rfl rfl rfl rfl (want rfl) (fun u44 eu44 fu44 _ => by obtain ⟨rfl, hl14, hi14, hB14⟩ := fu44 14 _ rfl (show (14 : Nat) ∈ _ from by decide); exact (do_sto sz_24 rfl rfl rfl rfl rfl hB14 rfl ⟨Nat.le_refl _, hi14⟩).mono (fun v w' h => ⟨h.1, h.2.1, hi14, h.2.2⟩)) ?_
            refine mx_nil (fun w6 E6' H3 HS => ?_)
            have E6 := (ext_drawn _).trans' E6'
            have F10 := F5.ext E6
            have hz6 := E6.size
            have hI14 := (HS.1 14 _ rfl).2
            have hI74 := (HS.1 74 _ rfl).2
            have hX14_74 := HS.2 14 _ 74 _ rfl rfl (show (14 : Nat) ≠ 74 from by decide)
            simp only at hI14
            simp only at hI74
            simp only at hX14_74
            have g14 := H3 14 _ rfl
            obtain ⟨⟨_, hv14, hb14, _, _⟩, hi14, hB14⟩ := g14; subst hv14; have hlb14 := hB14.lt
            have g74 := H3 74 _ rfl
            obtain ⟨hI0, sN, cN, so, co, rfl, hBN, hPN⟩ := g74
            have nb2 : ∀ k, ob so2_9 k → k ≠ I14.1 := fun k hk => by have := (ow2L_9).lt hk; omega
            refine lx_value (want rfl) (as_slice rfl) ?_
            refine lx_nil ?_
            refine wk_seq ?_
            have hOw := (ow2L_9.ext E6)
            have hSl : ∀ k, (ob so2_9) k → k < w6.heap.size := fun k h => ((ow2L_9.ext E6)).lt h
            refine wk_mixA 4 3 (ob so2_9) (fun kS => match kS with | 3 => .any (fun I v w => ∃ s c, v = .slice s (o.length + (movedO dim n (p1, p2, p3)).length) c ∧ OwnS w 41 3 s (o.length + (movedO dim n (p1, p2, p3)).length) c ((o.flatMap pkC) ++ (movedO dim n (p1, p2, p3)).flatMap pkC) ∧ ∀ k, ob s k → (ob so2_9 k ∨ w6.heap.size ≤ k)) | _ => .none) (by kernel_rfl) (by kernel_rfl) (by intro kS G hk; (try dsimp only at hk); (split at hk) <;> first | (cases hk; done) | (injection hk with hk; subst hk; exact ⟨by intro j hkj I v w w' hR hG; first | exact hG | (obtain ⟨s, c, h1, h2, h3⟩ := hG; exact ⟨s, c, h1, h2.ext (mT hkj hR), h3⟩), fun ⟨_, _, _, _, hs⟩ => by (try dsimp only at hs); split at hs <;> cases hs⟩)) (by intro kS s y G hk; (try dsimp only at hk); split at hk <;> cases hk) ?_
            simp only [List.take_succ_cons, List.take_zero, List.take_nil, List.drop_succ_cons, List.drop_zero, List.drop_nil]
            refine mx_calm rfl (want rfl) (fun u45 eu45 fu45 => rn_loadBlk ag_24 sz_24 rfl (hB14.fr (mD (by decide) eu45) (fun h => nb2 _ h rfl)) rfl rfl) ?_
            refine mx_calm rfl (want rfl) (fun u46 eu46 fu46 => mv_slice ho2_9) ?_
            refine mx_calm rfl (want rfl) (fun u47 eu47 fu47 => mv_slice rfl) ?_
            refine mx_any rfl rfl (want rfl) (fun u48 eu48 fu48 => do_append 24 Tryd.underlying49 ti_41 (by decide) rfl (by decide) rfl rfl ((ow2L_9.ext E6).ext (mC eu48)) ((hPN.fr (pk_stab _) (mC eu48) (fun _ _ h => h)).src (fun _ _ => rfl) (fun _ _ u hu => pk_one hu) (by decide)) (by omega) (fun sA cA wA AP => ⟨(mF AP.fr), ⟨sA, cA, rfl, AP.own, fun k hk => (AP.blk k hk).elim .inl (fun h => .inr (Nat.le_trans (mC eu48).size h))⟩⟩)) (fun I80 v80 => ?_)
            refine mx_nil (fun w7 E7' H4 HS => ?_)
            have E7 := mG E7'
            have hI80 := (HS.1 80 _ rfl).2
            simp only at hI80
            have g80 := H4 80 _ rfl
            obtain ⟨sq3, cq3, rfl, hO3, hI3⟩ := g80
            have AP3 : Apd w6 _ _ so2_9 _ _ sq3 cq3 w7 := ⟨hO3, E7, hI3⟩
            have EA3 := AP3.fr
            have ow3 := AP3.own
            have ge3 : ∀ k, ob sq3 k → w0.heap.size ≤ k := fun k hk => (AP3.blk k hk).elim (ge2L_9 k) (fun h => Nat.le_trans F10.size h)
            have ne3_1 : ∀ k, ob sq3 k → k ≠ b1 := fun k hk => (AP3.blk k hk).elim (ne2L_9_1 k) (fun h => by have := ((BL2_1.ext E6)).lt; omega)
            have ne3_1014 : ∀ k, ob sq3 k → k ≠ I14.1 := fun k hk => (AP3.blk k hk).elim (nb2 k) (fun h => by have := (hB14).lt; omega)
            have F11 := F10.new EA3 ge2L_9
            have hzA3 := EA3.size
            have BA3_1 := (BL2_1.ext E6).fr EA3 (fun h => ne2L_9_1 _ h rfl)
            have BA3_1014 := hB14.fr EA3 (fun h => nb2 _ h rfl)
            have hq9 := AP3.blk
            refine lx_set (want rfl) sz_24 (A2.at 2 rfl (A1.at 2 rfl rfl)) (t_agg rfl) rfl rfl rfl BA3_1 (Nat.le_of_ble_eq_true rfl) ?_
            intro w8 Es2 Bs2
            have F12 := F11.set Es2 (by omega)
            have hzs2 := Es2.size
            refine lx_value (want rfl) (as_slice rfl) ?_
            refine lx_nil ?_
            refine wk_region ?_
            refine lx_value (want rfl) (mv_int hs2_10) ?_
            refine lx_value (want rfl) (rn_addN rfl (n := 1) rfl (by omega)) ?_
            refine lx_value (want rfl) (as_int rfl) ?_
            refine lx_nil ?_
            refine wk_region ?_
            have hB3 := BufS.on (F' := fun j => j < w8.heap.size ∧ j ≠ b1 ∧ ¬ ob sq3 j) hBN (Fr.trans (Fr.trans (Fr.refl (fun k => ob so2_9 k ∨ k = b1) w6) EA3 (fun k _ h => (.inl h))) Es2 (fun k _ h => (.inr h))) (fun k hk hlt h => h.elim (fun h => by have := hlt9 k h; have := hk.1; omega) (fun h => by have := hk.1; omega)) (fun k hk hlt => ⟨by omega, by have := hk.1; omega, fun h => (hq9 k h).elim (fun h => by have := hlt9 k h; have := hk.1; omega) (fun h => by have := hk.2; omega)⟩)
            have hV3 := (moved_valid hV2 hn hab).1
            have hlt10 : ∀ k, ob sq3 k → k < w8.heap.size := fun k hk => ((ow3.ne Es2 (fun h => ne3_1 _ h rfl))).lt hk
            refine lx_value (want rfl) (rn_loadBlk ag_24 sz_24 (A2.at 2 rfl (A1.at 2 rfl rfl)) Bs2 rfl rfl) ?_
            refine lx_call (want rfl) (ent_func cf_32 (argsC (t_agg rfl) args0)) (movesV hV3 (moves_ct _ _ _ _ _ _ w8 hB3)) ?_
            rintro _ w9 E8 ⟨sM3, cM3, rfl, hM3⟩
            have F13 := F12.ext E8
            have hz8 := E8.size
            refine lx_value (want rfl) (mv_tuple rfl) ?_
            refine lx_value (want rfl) (rn_extract rfl rfl) ?_
            refine lx_value (want rfl) (rn_extract rfl rfl) ?_
            refine lx_value (want rfl) (as_slice rfl) ?_
            refine lx_nil ?_
            have hlen3 : (movedL dim L2 n (p1, p2, p3) q).length = L2.length := by rw [hV3.len, hV2.len]
            have hdec := (moved_valid hV2 hn hab).2
            exact ⟨rfl, ((((((((((((((((((((((((((((((((((((((((((((A2.up rfl _).up rfl _).up rfl _).up rfl _).up rfl _).up rfl _).up rfl _).up rfl _).up rfl _).up rfl _).up rfl _).up rfl _).up rfl _).up rfl _).up rfl _).up rfl _).up rfl _).up rfl _).up rfl _).up rfl _).up rfl _).up rfl _).up rfl _).up rfl _).up rfl _).up rfl _).up rfl _).none _).up rfl _).up rfl _).up rfl _).up rfl _).up rfl _).none _).up rfl _).up rfl _).up rfl _).up rfl _).up rfl _).up rfl _).up rfl _).up rfl _).up rfl _).up rfl _), Fr.between F4 F13 (by omega), _, (by rw [hlen3]; omega), movedL dim L2 n (p1, p2, p3) q, m + 1, o ++ movedO dim n (p1, p2, p3), sN, cN, sM3, cM3, sq3, cq3, rfl, rfl, rfl, (Bs2.ext E8), (by rw [List.length_append]; exact rfl), (by rw [List.length_append]; exact own_app ((ow3.ne Es2 (fun h => ne3_1 _ h rfl)).ext E8)), ge3, ne3_1, BufS.on hB3 (Fr.ext (Fr.refl no w8) E8) (fun _ _ _ h => h) (fun k hk hlt => ⟨by omega, hk.2⟩), MvS.on hM3 (Fr.refl no _) (fun _ _ h => h) (fun k hk => ⟨hk.2, by have := hk.1; omega, fun h => by have := hlt10 k h; have := hk.1; omega⟩), hV3, run_step hV2 hn hab hpa hne hrun, by rw [List.length_append]; omega, by rw [hlen3]; omega⟩
        ·
          refine lx_nil ?_
          refine wk_cond_f rfl ?_
          refine wk_exit ?_
          refine wk_seq ?_
          refine wk_region ?_
          refine lx_value (want rfl) (mv_slice ho2_9) ?_
          refine lx_value (want rfl) (mv_int hs2_10) ?_
          refine lx_value (want rfl) (as_slice rfl) ?_
          refine lx_value (want rfl) (as_int rfl) ?_
          refine lx_value (want rfl) (as_int rfl) ?_
          refine lx_nil ?_
          refine wk_ret ?_
          refine retR3 Tryd.results36 (.tmp (t_slice rfl)) (.tmp (t_int rfl)) (.tmp (t_int rfl)) F5 ?_
          exact run_ok hV h60 hpos hrun hlt ow2L_9 rfl ge2L_9

set_option maxHeartbeats 1000000 in
theorem refrounds_ct (d r : Int) (L : List (List Pk)) (s : Option Addr) (c : Nat) (G : Nat → Prop) (w0 : World) (hL : BufS G w0 s L) :
    CT Tryd.prog 46 [.agg #[.int .i64 d, .int .i64 r, .slice s L.length c]] w0 no (fun v w => RoundsQ w0.heap.size d r L v w) := by
  have F0 := Fr.refl no w0
  refine ct_body Tryd.func46 rfl Tryd.ntmps46 (Nat.le_of_ble_eq_true rfl) ?_
  refine wk_seq ?_
  refine wk_region ?_
  refine lx_new (want rfl) (rn_box (t_agg rfl)) ?_
  intro b1 w1 hb1 Eb1 B1 hlb1
  have F1 := F0.ext Eb1
  have hzb1 := Eb1.size
  refine lx_value (want rfl) (as_slice rfl) ?_
  refine lx_value (want rfl) (as_int rfl) ?_
  refine lx_value (want rfl) (as_int rfl) ?_
  refine lx_nil ?_
  refine wk_seq ?_
  refine wk_seq ?_
  refine wk_region ?_
  refine lx_value (want rfl) (rn_loadBlk ag_24 sz_24 rfl B1 rfl rfl) ?_
  refine lx_call (want rfl) (ent_func cf_27 (argsC (t_agg rfl) args0)) (check_ct _ _ _ _ _ _ w1 (hL.fr (buf_stab _) F1 (fun _ _ h => h))) ?_
  rintro _ w2 E1 rfl
  have F2 := F1.ext E1
  have hz1 := E1.size
  refine lx_value (want rfl) (as_int rfl) ?_
  refine lx_nil ?_
  refine wk_seq ?_
  refine wk_region ?_
  refine lx_value (want rfl) (mv_int rfl) ?_
  refine lx_value (want rfl) (rn_neq rfl rfl) ?_
  refine lx_dec (fun h1 => ?_) (fun h1 => ?_)
  ·
    refine lx_nil ?_
    refine wk_cond_t rfl ?_
    refine wk_seq ?_
    refine wk_region ?_
    refine lx_value (want rfl) (mv_int rfl) ?_
    refine lx_value (want rfl) (as_slice rfl) ?_
    refine lx_value (want rfl) (as_int rfl) ?_
    refine lx_value (want rfl) (as_int rfl) ?_
    refine lx_nil ?_
    refine wk_ret ?_
    refine retR3 Tryd.results46 (.tmp (t_slice rfl)) (.tmp (t_int rfl)) (.tmp (t_int rfl)) F2 ?_
    exact rounds_bad h1
  ·
    obtain ⟨dim, rfl, hV⟩ := chk_zero (Decidable.not_not.1 h1)
    have hd := hV.hd
    have hnL := hV.len
    have h32 := prod_le hd
    refine lx_nil ?_
    refine wk_cond_f rfl ?_
    refine wk_skip ?_
    refine wk_seq ?_
    refine wk_region ?_
    refine lx_value (want rfl) (as_slice rfl) ?_
    have hB0 := hL.lt.fr (buf_stab _) F2 (fun _ _ h => h)
    have hle := leftN_le (dim := dim) (fun n l h => hV.le8 h) (Nat.le_refl L.length)
    refine lx_nil ?_
    refine wk_seq ?_
    refine wk_region ?_
    refine lx_value (want rfl) (as_int rfl) ?_
    refine lx_nil ?_
    refine wk_seq ?_
    refine wk_block ?_
    refine wk_loopA [6, 7, 8, 9, 10, 16, 17, 18, 19, 20, 21, 22, 23, 24, 25, 26, 27, 28, 29, 30] (fun j => no j ∨ w0.heap.size ≤ j) (fun nM ρ w => ∃ (L2 : List (List Pk)) (m : Nat) (o : List Pk) (sL : Option Addr) (cL : Nat) (so1_6 : Option Addr) (co1_6 : Nat), nM = leftN dim L2 L2.length ∧ ρ 7 = .int .i64 m ∧ Blk w b1 [.int .i64 dim, .int .i64 r, .slice sL L2.length cL] 24 ∧ ρ 6 = .slice so1_6 (o.length) co1_6 ∧ OwnS w 41 3 so1_6 (o.length) co1_6 (o.flatMap pkC) ∧ (∀ k, ob so1_6 k → w0.heap.size ≤ k) ∧ (∀ k, ob so1_6 k → k ≠ b1) ∧ (BufS (fun j => j < w.heap.size ∧ j ≠ b1 ∧ ¬ ob so1_6 j) w sL L2) ∧ (Valid dim r L2) ∧ (rdsF dim r (leftN dim L2 L2.length) L2 m o = rdsF dim r (leftN dim L L.length) L 0 []) ∧ (o.length ≤ 32 * m) ∧ (m + leftN dim L2 L2.length ≤ leftN dim L L.length)) _ ⟨L, 0, [], _, _, none, 0, rfl, rfl, (B1.ext E1), rfl, (OwnS.nil w2 41 3), (fun _ h => ob_none h), (fun _ h => ob_none h), BufS.wide hB0 (fun k hk => ⟨by have := hk.2; omega, by have := hk.2; omega, fun h => ob_none h⟩), hV, rfl, by simp, by omega⟩ ?_
    rintro n1 ρ1 w3 A1 EL1 ⟨L2, m, o, sL, cL, so1_6, co1_6, rfl, hs1_7, BL1_1, ho1_6, ow1L_6, ge1L_6, ne1L_6_1, hB2, hV2, hrun, hom, hml⟩
    have F3 := F2.wide EL1
    have hzL1 := EL1.size
    refine wk_seq ?_
    refine wk_seq ?_
    refine wk_region ?_
    refine lx_value (want rfl) (rn_loadBlk ag_24 sz_24 (A1.at 1 rfl rfl) BL1_1 rfl rfl) ?_
    refine lx_call (want rfl) (ent_func cf_72 (argsC (t_agg rfl) args0)) (many_ct dim r L2 _ _ _ hV2.bd w3 hB2) ?_
    rintro _ w4 E2 rfl
    have F4 := F3.ext E2
    have hz2 := E2.size
    refine lx_value (want rfl) (rn_gtr rfl rfl) ?_
    refine lx_dec (fun hmn => ?_) (fun hmn => ?_)
    ·
      have hm0 : manyN L2 ≠ 0 := by omega
      refine lx_nil ?_
      refine wk_cond_t rfl ?_
      refine wk_skip ?_
      refine wk_block ?_
      refine wk_seq ?_
      refine wk_region ?_
      have hlt9 : ∀ k, ob so1_6 k → k < w4.heap.size := fun k hk => ((ow1L_6.ext E2)).lt hk
      have hb1lt := ((BL1_1.ext E2)).lt
      refine lx_value (want rfl) (rn_loadBlk ag_24 sz_24 (A1.at 1 rfl rfl) (BL1_1.ext E2) rfl rfl) ?_
      refine lx_call (want rfl) (ent_func cf_45 (argsC (t_agg rfl) args0)) (roundV hV2 (refround_ct _ _ _ _ _ _ w4 (hB2.fr (buf_stab _) (Fr.ext (Fr.refl no w3) E2) (fun _ _ h => h)))) ?_
      rintro _ w5 E3 ⟨sN, cN, so, co, rfl, hBN, hPN⟩
      have F5 := F4.ext E3
      have hz3 := E3.size
      have hro := (rdB_8 hV2 L2.length).2
      have hrl := round_left hV2
      have hrg := round_go hV2 (by omega)
      have hV3 := round_valid hV2 L2.length
      have hlen3 : (rdB dim r L2 L2.length).1.length = L2.length := by rw [hV3.len, hV2.len]
      have hlen2 : L2.length = L.length := by rw [hV2.len, hV.len]
      refine lx_value (want rfl) (mv_tuple rfl) ?_
      refine lx_value (want rfl) (rn_extract rfl rfl) ?_
      refine lx_value (want rfl) (rn_extract rfl rfl) ?_
      refine lx_value (want rfl) (rn_extract rfl rfl) ?_
      refine lx_new (want rfl) (rn_alloc ze_24) ?_
      intro b2 w6 hb2 Eb2 B2 hlb2
      have F6 := F5.ext Eb2
      have hzb2 := Eb2.size
      have nb1 : ∀ k, ob so1_6 k → k ≠ b2 := fun k hk => by have := (ow1L_6).lt hk; omega
      refine lx_set (want rfl) sz_24 rfl (t_agg rfl) rfl rfl rfl B2 (Nat.le_of_ble_eq_true rfl) ?_
      intro w7 Es1 Bs1
      have F7 := F6.set Es1 (by omega)
      have hzs1 := Es1.size
      refine lx_value (want rfl) (as_slice rfl) ?_
      refine lx_value (want rfl) (as_int rfl) ?_
      refine lx_nil ?_
      refine wk_seq ?_
      have hOw := ((((ow1L_6.ext E2).ext E3).ext Eb2).ne Es1 (fun h => nb1 _ h rfl))
      have hSl : ∀ k, (ob so1_6) k → k < w7.heap.size := fun k h => (((((ow1L_6.ext E2).ext E3).ext Eb2).ne Es1 (fun h => nb1 _ h rfl))).lt h
      refine wk_mixA 4 3 (ob so1_6) (fun kS => match kS with | 3 => .any (fun I v w => ∃ s c, v = .slice s (o.length + (rdB dim r L2 L2.length).2.length) c ∧ OwnS w 41 3 s (o.length + (rdB dim r L2 L2.length).2.length) c ((o.flatMap pkC) ++ (rdB dim r L2 L2.length).2.flatMap pkC) ∧ ∀ k, ob s k → (ob so1_6 k ∨ w7.heap.size ≤ k)) | _ => .none) (by kernel_rfl) (by kernel_rfl) (by intro kS G hk; (try dsimp only at hk); (split at hk) <;> first | (cases hk; done) | (injection hk with hk; subst hk; exact ⟨by intro j hkj I v w w' hR hG; first | exact hG | (obtain ⟨s, c, h1, h2, h3⟩ := hG; exact ⟨s, c, h1, h2.ext (mT hkj hR), h3⟩), fun ⟨_, _, _, _, hs⟩ => by (try dsimp only at hs); split at hs <;> cases hs⟩)) (by intro kS s y G hk; (try dsimp only at hk); split at hk <;> cases hk) ?_
      simp only [List.take_succ_cons, List.take_zero, List.take_nil, List.drop_succ_cons, List.drop_zero, List.drop_nil]
      refine mx_calm rfl (want rfl) (fun u1 eu1 fu1 => rn_loadBlk ag_24 sz_24 rfl (Bs1.fr (mD (by decide) eu1) (fun h => nb1 _ h rfl)) rfl rfl) ?_
      refine mx_calm rfl (want rfl) (fun u2 eu2 fu2 => mv_slice ho1_6) ?_
      refine mx_calm rfl (want rfl) (fun u3 eu3 fu3 => mv_slice rfl) ?_
      refine mx_any rfl rfl (want rfl) (fun u4 eu4 fu4 => do_append 24 Tryd.underlying49 ti_41 (by decide) rfl (by decide) rfl rfl (((((ow1L_6.ext E2).ext E3).ext Eb2).ne Es1 (fun h => nb1 _ h rfl)).ext (mC eu4)) (((hPN.fr (pk_stab _) (Fr.trans (Fr.ext (Fr.refl (fun k => k = b2) w5) Eb2) Es1 (fun k _ h => h)) (fun k hk h => by have := hk.2; (try dsimp only at h); omega)).fr (pk_stab _) (mC eu4) (fun _ _ h => h)).src (fun _ _ => rfl) (fun _ _ u hu => pk_one hu) (by decide)) (by omega) (fun sA cA wA AP => ⟨(mF AP.fr), ⟨sA, cA, rfl, AP.own, fun k hk => (AP.blk k hk).elim .inl (fun h => .inr (Nat.le_trans (mC eu4).size h))⟩⟩)) (fun I28 v28 => ?_)
      refine mx_nil (fun w8 E4' H1 HS => ?_)
      have E4 := mG E4'
      have hI28 := (HS.1 28 _ rfl).2
      simp only at hI28
      have g28 := H1 28 _ rfl
      obtain ⟨sq2, cq2, rfl, hO2, hI2⟩ := g28
      have AP2 : Apd w7 _ _ so1_6 _ _ sq2 cq2 w8 := ⟨hO2, E4, hI2⟩
      have EA2 := AP2.fr
      have ow2 := AP2.own
      have ge2 : ∀ k, ob sq2 k → w0.heap.size ≤ k := fun k hk => (AP2.blk k hk).elim (ge1L_6 k) (fun h => Nat.le_trans F7.size h)
      have ne2_1 : ∀ k, ob sq2 k → k ≠ b1 := fun k hk => (AP2.blk k hk).elim (ne1L_6_1 k) (fun h => by have := (((((BL1_1.ext E2).ext E3).ext Eb2).ne Es1 (by omega))).lt; omega)
      have ne2_2 : ∀ k, ob sq2 k → k ≠ b2 := fun k hk => (AP2.blk k hk).elim (nb1 k) (fun h => by have := (Bs1).lt; omega)
      have F8 := F7.new EA2 ge1L_6
      have hzA2 := EA2.size
      have BA2_1 := ((((BL1_1.ext E2).ext E3).ext Eb2).ne Es1 (by omega)).fr EA2 (fun h => ne1L_6_1 _ h rfl)
      have BA2_2 := Bs1.fr EA2 (fun h => nb1 _ h rfl)
      have hq9 := AP2.blk
      refine lx_set (want rfl) sz_24 (A1.at 1 rfl rfl) (t_agg rfl) rfl rfl rfl BA2_1 (Nat.le_of_ble_eq_true rfl) ?_
      intro w9 Es2 Bs2
      have F9 := F8.set Es2 (by omega)
      have hzs2 := Es2.size
      refine lx_value (want rfl) (as_slice rfl) ?_
      refine lx_nil ?_
      refine wk_region ?_
      refine lx_value (want rfl) (mv_int hs1_7) ?_
      refine lx_value (want rfl) (rn_addN rfl (n := 1) rfl (by omega)) ?_
      refine lx_value (want rfl) (as_int rfl) ?_
      refine lx_nil ?_
      exact ⟨rfl, ((((((((((((((((((((((A1.up rfl _).up rfl _).up rfl _).up rfl _).up rfl _).up rfl _).up rfl _).up rfl _).up rfl _).up rfl _).none _).up rfl _).up rfl _).up rfl _).up rfl _).up rfl _).up rfl _).none _).up rfl _).up rfl _).up rfl _).up rfl _), Fr.between F2 F9 (by omega), _, (by rw [hlen3]; omega), (rdB dim r L2 L2.length).1, m + 1, o ++ (rdB dim r L2 L2.length).2, sN, cN, sq2, cq2, rfl, rfl, Bs2, (by rw [List.length_append]; exact rfl), (by rw [List.length_append]; exact own_app (ow2.ne Es2 (fun h => ne2_1 _ h rfl))), ge2, ne2_1, BufS.on hBN (Fr.trans (Fr.trans (Fr.trans (Fr.ext (Fr.refl (fun k => k = b2 ∨ ob so1_6 k ∨ k = b1) w5) Eb2) Es1 (fun k _ h => (.inl h))) EA2 (fun k _ h => (.inr (.inl h)))) Es2 (fun k _ h => (.inr (.inr h)))) (fun k hk hlt h => by have := hk.1; first | omega | (rcases h with h | h | h <;> first | omega | (have := hlt9 k h; omega)) | (rcases h with h | h <;> first | omega | (have := hlt9 k h; omega))) (fun k hk hlt => ⟨by omega, by have := hk.1; omega, fun h => (hq9 k h).elim (fun h => by have := hlt9 k h; have := hk.1; omega) (fun h => by have := hk.2; omega)⟩), hV3, rds_step hV2 hm0 hrun, by rw [List.length_append]; omega, by rw [hlen3]; omega⟩
    ·
      refine lx_nil ?_
      refine wk_cond_f rfl ?_
      refine wk_exit ?_
      refine wk_seq ?_
      refine wk_region ?_
      refine lx_value (want rfl) (mv_slice ho1_6) ?_
      refine lx_value (want rfl) (mv_int hs1_7) ?_
      refine lx_value (want rfl) (as_slice rfl) ?_
      refine lx_value (want rfl) (as_int rfl) ?_
      refine lx_value (want rfl) (as_int rfl) ?_
      refine lx_nil ?_
      refine wk_ret ?_
      refine retR3 Tryd.results46 (.tmp (t_slice rfl)) (.tmp (t_int rfl)) (.tmp (t_int rfl)) F4 ?_
      exact rounds_ok hV hrun (by omega) (ow1L_6.ext E2) rfl ge1L_6

end Go.Proofs.YtlfclnkoimfhmaaDoor

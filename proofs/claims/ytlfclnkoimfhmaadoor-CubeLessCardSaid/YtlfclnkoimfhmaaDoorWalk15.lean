/- What functions of the cube compute: xrun, xrounds, xmoves, on, xleft, ccheck. -/
import Derived.Test.YtlfclnkoimfhmaaDoorFacts
import Derived.Test.YtlfclnkoimfhmaaDoorPre
import Derived.Test.YtlfclnkoimfhmaaDoorWalk13
import Derived.Test.YtlfclnkoimfhmaaDoorWalk2
import Derived.Test.YtlfclnkoimfhmaaDoorWalk3
import Derived.Test.YtlfclnkoimfhmaaDoorWalk4
import Derived.Test.YtlfclnkoimfhmaaDoorWalk6
import Derived.Test.YtlfclnkoimfhmaaDoorWalk7
import Derived.Test.YtlfclnkoimfhmaaDoorWalk9
set_option linter.unusedVariables false
set_option linter.unusedSimpArgs false
namespace Go.Proofs.YtlfclnkoimfhmaaDoor
open Go Go.RowKit Go.Mix Go.Eng
set_option maxHeartbeats 2000000 in
theorem xrun_ct (d r : Int) (L : List (List Pk)) (s : Option Addr) (c : Nat) (G : Nat → Prop) (hB : Bd L) (picks : List Int) (sp : Option Addr) (cp : Nat) (Fp : Nat → Prop) (w0 : World) (hL : BufS G w0 s L) (hT : Tb w0 1) (hP : IntS Fp w0 sp picks) :
    CT Tryd.prog 35 [.agg #[.int .i64 d, .int .i64 r, .slice s L.length c], .slice sp picks.length cp] w0 no (fun v w => RunQ w0.heap.size d r L picks v w) := by
  have hTl := hT.lt
  have F0 := Fr.refl no w0
  refine ct_body Tryd.func35 rfl Tryd.ntmps35 (Nat.le_of_ble_eq_true rfl) ?_
  refine wk_seq ?_
  refine wk_region ?_
  refine lx_new (want rfl) (rn_box (t_agg rfl)) ?_
  intro b21 w1 hb21 Eb21 B21 hlb21
  have F1 := F0.ext Eb21
  have hzb21 := Eb21.size
  refine lx_value (want rfl) (as_slice rfl) ?_
  refine lx_value (want rfl) (as_int rfl) ?_
  refine lx_value (want rfl) (as_int rfl) ?_
  refine lx_nil ?_
  refine wk_seq ?_
  refine wk_region ?_
  refine lx_value (want rfl) (rn_loadBlk ag_24 sz_24 rfl B21 rfl rfl) ?_
  refine lx_call (want rfl) (ent_func cf_51 (argsC (t_agg rfl) args0)) (openR (open_ct _ _ _ _ _ _ hB w1 (hL.fr (buf_stab _) F1 (fun _ _ h => h)) (hT.ext Eb21))) ?_
  rintro _ w2 E1 ⟨pO, rfl, hO⟩
  have F2 := F1.ext E1
  have hz1 := E1.size
  refine lx_value (want rfl) (mv_tuple rfl) ?_
  refine lx_value (want rfl) (rn_extract rfl rfl) ?_
  refine lx_value (want rfl) (rn_extract rfl rfl) ?_
  refine lx_value (want rfl) (as_pointer rfl) ?_
  refine lx_value (want rfl) (as_int rfl) ?_
  refine lx_nil ?_
  refine wk_seq ?_
  refine wk_region ?_
  refine lx_value (want rfl) (as_func rfl) ?_
  refine lx_nil ?_
  refine wk_seq ?_
  refine wk_block ?_
  refine wk_seq ?_
  refine wk_region ?_
  refine lx_value (want rfl) (mv_int rfl) ?_
  refine lx_value (want rfl) (rn_neq rfl rfl) ?_
  refine lx_dec (fun h1 => ?_) (fun h1 => ?_)
  ·
    refine lx_value (want rfl) (as_bool rfl) ?_
    refine lx_nil ?_
    refine wk_cond_t rfl ?_
    refine wk_seq ?_
    refine wk_region ?_
    refine lx_value (want rfl) (mv_int rfl) ?_
    refine lx_value (want rfl) (as_slice rfl) ?_
    refine lx_value (want rfl) (as_int rfl) ?_
    refine lx_value (want rfl) (as_int rfl) ?_
    refine lx_nil ?_
    refine wk_ret ?_
    refine retR3 Tryd.results35 (.tmp (t_slice rfl)) (.tmp (t_int rfl)) (.tmp (t_int rfl)) F2 ?_
    exact run_err (runE_chk h1) h1
  ·
    obtain ⟨dim, bO, sO, cO, TO, rfl, hV, rfl, hCO, hmO, hbO, hgO⟩ := hO (Decidable.not_not.1 h1)
    have hd := hV.hd
    have hnL := hV.len
    have h32 := prod_le hd
    have hle := leftN_le (dim := dim) (fun n l h => hV.le8 h) (Nat.le_refl L.length)
    have hgO0 : ∀ k, tb sO TO k → w0.heap.size ≤ k := fun k hk => by have := hgO k hk; omega
    have hbOl := hCO.blk.lt
    have nO_800 : ∀ k, tb sO TO k → k ≠ 1 := fun k hk => by have := hgO k hk; have := (hT).lt; omega
    have nO_21 : ∀ k, tb sO TO k → k ≠ b21 := fun k hk => by have := hgO k hk; have := (B21).lt; omega
    refine lx_value (want rfl) (as_bool rfl) ?_
    refine lx_nil ?_
    refine wk_cond_f rfl ?_
    refine wk_seq ?_
    refine wk_region ?_
    refine lx_value (want rfl) (mv_slice rfl) ?_
    refine lx_value (want rfl) (rn_len Tryd.underlying28 rfl) ?_
    refine lx_value (want rfl) (rn_gtr rfl rfl) ?_
    refine lx_dec (fun h60 => ?_) (fun h60 => ?_)
    ·
      refine lx_value (want rfl) (as_bool rfl) ?_
      refine lx_nil ?_
      refine wk_cond_t rfl ?_
      refine wk_seq ?_
      refine wk_region ?_
      refine lx_value (want rfl) (as_slice rfl) ?_
      refine lx_value (want rfl) (as_int rfl) ?_
      refine lx_value (want rfl) (as_int rfl) ?_
      refine lx_nil ?_
      refine wk_ret ?_
      refine retR3 Tryd.results35 (.tmp (t_slice rfl)) (.tmp (t_int rfl)) (.tmp (t_int rfl)) F2 ?_
      exact run_err (runE_many hV h60) (by decide)
    ·
      refine lx_value (want rfl) (as_bool rfl) ?_
      refine lx_nil ?_
      refine wk_cond_f rfl ?_
      refine wk_seq ?_
      refine wk_region ?_
      refine lx_value (want rfl) (mv_slice rfl) ?_
      refine lx_value (want rfl) (mv_func rfl) ?_
      refine lx_call (want rfl) (ent_func cf_66 (argsC (t_slice rfl) (argsC (t_func rfl) args0))) (contains_ct picks _ _ _ 65 [] (fun z => decide (z < 0)) cf_65 w2 (hP.fr (int_stab _) F2 (fun _ _ h => h)) (by omega) (fun z w hz E => run1_ct z w)) ?_
      rintro _ w3 E2 rfl
      have F3 := F2.ext E2
      have hz2 := E2.size
      refine lx_split (fun h27 => ?_) (fun h27 => ?_)
      ·
        refine lx_value (want rfl) (as_bool rfl) ?_
        refine lx_nil ?_
        refine wk_cond_t rfl ?_
        refine wk_seq ?_
        refine wk_region ?_
        refine lx_value (want rfl) (as_slice rfl) ?_
        refine lx_value (want rfl) (as_int rfl) ?_
        refine lx_value (want rfl) (as_int rfl) ?_
        refine lx_nil ?_
        refine wk_ret ?_
        refine retR3 Tryd.results35 (.tmp (t_slice rfl)) (.tmp (t_int rfl)) (.tmp (t_int rfl)) F3 ?_
        exact run_err (any_neg hV h60 h27) (by decide)
      ·
        have hpos := all_pos h27
        refine lx_value (want rfl) (as_bool rfl) ?_
        refine lx_nil ?_
        refine wk_cond_f rfl ?_
        refine wk_skip ?_
        refine wk_seq ?_
        refine wk_seq ?_
        refine wk_region ?_
        refine lx_value (want rfl) (mv_pointer rfl) ?_
        refine lx_call (want rfl) (ent_func cf_59 (argsC (t_pointer rfl) args0)) (cmoves_ct bO dim r sO cO TO L hmO hV w3 ⟨(hCO.blk.ext E2), (hCO.tab.ext E2), hCO.ne⟩ (((hT.ext Eb21).ext E1).ext E2)) ?_
        rintro _ w4 E3 ⟨sM0, cM0, rfl, hM0⟩
        have F4 := F3.ext E3
        have hz3 := E3.size
        refine lx_value (want rfl) (as_slice rfl) ?_
        refine lx_nil ?_
        refine wk_block ?_
        refine wk_loopA [4, 5, 9, 10, 30, 31, 32, 33, 34, 35, 36, 37, 38, 39, 40, 41, 42, 43, 44, 45, 46, 47, 48, 49, 50, 51, 52, 53, 54, 55] (fun j => no j ∨ w0.heap.size ≤ j) (fun nM ρ w => ∃ (L2 : List (List Pk)) (m : Nat) (o : List Pk) (sM : Option Addr) (cM : Nat) (so1_4 : Option Addr) (co1_4 : Nat) (st1_1 : Option Addr) (ct1_1 : Nat) (TT1_1 : List (TE Pk)), nM = leftN dim L2 L2.length ∧ ρ 5 = .int .i64 m ∧ ρ 9 = .slice sM (movesL dim r L2 L2.length).length cM ∧ Tb w 1 ∧ Blk w b21 (cellsOf B21) 24 ∧ Blk w bO [.int .i64 dim, .int .i64 r, .slice st1_1 TT1_1.length ct1_1] 76 ∧ ρ 4 = .slice so1_4 (o.length) co1_4 ∧ OwnS w 41 3 so1_4 (o.length) co1_4 (o.flatMap pkC) ∧ (∀ k, ob so1_4 k → w0.heap.size ≤ k) ∧ (∀ k, ob so1_4 k → k ≠ 1) ∧ (∀ k, ob so1_4 k → k ≠ b21) ∧ (∀ k, ob so1_4 k → k ≠ bO) ∧ Tab w 49 41 3 pkC st1_1 ct1_1 TT1_1 ∧ (∀ k, tb st1_1 TT1_1 k → w0.heap.size ≤ k) ∧ (∀ k, tb st1_1 TT1_1 k → k ≠ 1) ∧ (∀ k, tb st1_1 TT1_1 k → k ≠ b21) ∧ (∀ k, tb st1_1 TT1_1 k → k ≠ bO) ∧ (∀ k, tb st1_1 TT1_1 k → ob so1_4 k → False) ∧ (MvS (fun _ => True) w sM (movesL dim r L2 L2.length)) ∧ (TT1_1.map (·.2.2) = L2) ∧ (Valid dim r L2) ∧ (runF dim r picks (leftN dim L2 L2.length) L2 m o = runF dim r picks (leftN dim L L.length) L 0 []) ∧ (o.length ≤ m) ∧ (m + leftN dim L2 L2.length = leftN dim L L.length)) _ ⟨L, 0, [], sM0, cM0, none, 0, sO, cO, TO, rfl, rfl, rfl, ((((hT.ext Eb21).ext E1).ext E2).ext E3), (((B21.ext E1).ext E2).ext E3), ((hCO.blk.ext E2).ext E3), rfl, ((OwnS.nil w3 41 3).ext E3), (fun _ h => ob_none h), (fun _ h => ob_none h), (fun _ h => ob_none h), (fun _ h => ob_none h), ((hCO.tab.ext E2).ext E3), hgO0, nO_800, nO_21, hCO.ne, (fun _ _ h => ob_none h), hM0.wide (fun _ _ => trivial), hmO, hV, rfl, by simp, by omega⟩ ?_
        rintro n1 ρ1 w5 A1 EL1 ⟨L2, m, o, sM, cM, so1_4, co1_4, st1_1, ct1_1, TT1_1, rfl, hs1_5, hs1_9, BL1_800, BL1_21, BL1_60, ho1_4, ow1L_4, ge1L_4, ne1L_4_800, ne1L_4_21, ne1L_4_60, tw1L_1, tg1L_1, tn1L_1_800, tn1L_1_21, tn1L_1_60, ts1L_1_4, hM2, hm2, hV2, hrun, hom, hml⟩
        have F5 := F4.wide EL1
        have hzL1 := EL1.size
        refine wk_seq ?_
        refine wk_seq ?_
        refine wk_region ?_
        refine lx_value (want rfl) (mv_slice hs1_9) ?_
        refine lx_value (want rfl) (rn_len Tryd.underlying94 rfl) ?_
        refine lx_value (want rfl) (rn_gtr rfl rfl) ?_
        refine lx_dec (fun hlt => ?_) (fun hlt => ?_)
        ·
          have hne := ne_len hlt
          refine lx_nil ?_
          refine wk_cond_t rfl ?_
          refine wk_skip ?_
          refine wk_seq ?_
          refine wk_block ?_
          refine wk_seq ?_
          refine wk_region ?_
          refine lx_value (want rfl) (as_int rfl) ?_
          refine lx_nil ?_
          refine wk_seq ?_
          refine wk_seq ?_
          refine wk_region ?_
          refine lx_value (want rfl) (mv_int hs1_5) ?_
          refine lx_value (want rfl) (mv_slice (A1.at 1 rfl rfl)) ?_
          refine lx_value (want rfl) (rn_len Tryd.underlying28 rfl) ?_
          refine lx_value (want rfl) (rn_lss rfl rfl) ?_
          refine lx_dec (fun hpk => ?_) (fun hpk => ?_)
          ·
            obtain ⟨z, hz⟩ := getx hpk
            obtain ⟨zn, rfl⟩ : ∃ k : Nat, z = (k : Int) := ⟨z.toNat, by have := all_at hpos hz; omega⟩
            obtain ⟨bp, op, rfl, _, hcp⟩ := hP m _ hz
            have hkI := congrArg (fun k : Nat => (k : Int)) (pick_some (dim := dim) (ms := (movesL dim r L2 L2.length)) hz).symm
            refine lx_nil ?_
            refine wk_cond_t rfl ?_
            refine wk_region ?_
            refine lx_value (want rfl) (mv_slice (A1.at 1 rfl rfl)) ?_
            refine lx_value (want rfl) (mv_int hs1_5) ?_
            refine lx_value (want rfl) (rn_index m Tryd.underlying28 sz_3 rfl rfl rfl (by omega)) ?_
            refine lx_value (want rfl) (rn_load1 ag_3 rfl (F5.cell (fun h => h) (hcp 0 _ rfl))) ?_
            refine lx_value (want rfl) (mv_slice hs1_9) ?_
            refine lx_value (want rfl) (rn_len Tryd.underlying94 rfl) ?_
            refine lx_value (want rfl) (rn_remN rfl rfl (by omega)) ?_
            refine lx_value (want rfl) (as_int rfl) ?_
            refine lx_nil ?_
            refine wk_seq ?_
            refine wk_region ?_
            have hkl := pick_mem (dim := dim) (picks := picks) (m := m) hne
            obtain ⟨x, hmx⟩ : ∃ x, (movesL dim r L2 L2.length)[pickN dim picks (movesL dim r L2 L2.length) m]? = some x := ⟨_, List.getElem?_eq_getElem hkl⟩
            obtain ⟨n, hnl, hab, rfl⟩ := moves_at hmx
            have hpa := pickAt_eq rfl hmx
            obtain ⟨⟨p1, p2, p3⟩, q, hn⟩ := able_some hab
            obtain ⟨hd1, hd2, hd3, hd4⟩ := hV2.at hn
            obtain ⟨bm, om, hsM, _, hcm⟩ := hM2 _ _ hmx
            subst hsM
            have hmo := movedO_len dim n (p1, p2, p3)
            have hV3 := (moved_valid hV2 hn hab).1
            refine lx_value (want rfl) (mv_slice ho1_4) ?_
            refine lx_value (want rfl) (mv_pointer (A1.at 7 rfl rfl)) ?_
            refine lx_value (want rfl) (mv_slice hs1_9) ?_
            refine lx_value (want rfl) (mv_int rfl) ?_
            refine lx_value (want rfl) (rn_index (pickN dim picks (movesL dim r L2 L2.length) m) Tryd.underlying94 sz_82 rfl rfl hkI hkl) ?_
            refine lx_value (want rfl) (rn_load2 ag_82 sz_82 rfl (hcm 0 _ rfl) (hcm 1 _ rfl)) ?_
            refine lx_call (want rfl) (ent_func cf_62 (argsC (t_pointer rfl) (argsC (t_agg rfl) args0))) (moveN (move_ct bO dim r st1_1 ct1_1 TT1_1 L2 hm2 hV2 (n / (dim + 1)) (n % (dim + 1)) hd3 hd4 p1 p2 p3 q (by rw [div_mod_n]; exact hn) w5 ⟨BL1_60, tw1L_1, tn1L_1_60⟩ BL1_800 tn1L_1_800)) ?_
            rintro _ w6 E4 ⟨T2, so, co, rfl, hC2, hm3, hG2, hP2⟩
            have F6 := F5.new E4 (fun k h => tg1L_1 k h)
            have hz4 := E4.size
            have tg1 : ∀ k, tb st1_1 T2 k → w0.heap.size ≤ k := fun k hk => (hG2 k hk).elim (tg1L_1 k) (fun h => by omega)
            have tn1_800 : ∀ k, tb st1_1 T2 k → k ≠ 1 := fun k hk => (hG2 k hk).elim (tn1L_1_800 k) (fun h => by have := (BL1_800).lt; omega)
            have tn1_21 : ∀ k, tb st1_1 T2 k → k ≠ b21 := fun k hk => (hG2 k hk).elim (tn1L_1_21 k) (fun h => by have := (BL1_21).lt; omega)
            have tn1_60 : ∀ k, tb st1_1 T2 k → k ≠ bO := fun k hk => (hG2 k hk).elim (tn1L_1_60 k) (fun h => by have := (hC2.blk).lt; omega)
            have ts1_4 : ∀ k, tb st1_1 T2 k → ob so1_4 k → False := fun k hk h2 => (hG2 k hk).elim (fun h => ts1L_1_4 k h h2) (fun h => by have := (ow1L_4).lt h2; omega)
            refine lx_append 24 (want rfl) Tryd.underlying49 ti_41 (by decide) rfl (by decide) rfl rfl (ow1L_4.fr E4 (fun k h1 h => ts1L_1_4 k h h1)) (hP2.src (fun _ _ => rfl) (fun _ _ u hu => pk_one hu) (by decide)) (by omega) ?_
            intro sq2 cq2 w7 AP2
            have EA2 := AP2.fr
            have ow2 := AP2.own
            have ge2 : ∀ k, ob sq2 k → w0.heap.size ≤ k := fun k hk => (AP2.blk k hk).elim (ge1L_4 k) (fun h => Nat.le_trans F6.size h)
            have ne2_800 : ∀ k, ob sq2 k → k ≠ 1 := fun k hk => (AP2.blk k hk).elim (ne1L_4_800 k) (fun h => by have := ((BL1_800.fr E4 (fun h => tn1L_1_800 _ h rfl))).lt; omega)
            have ne2_21 : ∀ k, ob sq2 k → k ≠ b21 := fun k hk => (AP2.blk k hk).elim (ne1L_4_21 k) (fun h => by have := ((BL1_21.fr E4 (fun h => tn1L_1_21 _ h rfl))).lt; omega)
            have ne2_60 : ∀ k, ob sq2 k → k ≠ bO := fun k hk => (AP2.blk k hk).elim (ne1L_4_60 k) (fun h => by have := (hC2.blk).lt; omega)
            have F7 := F6.new EA2 ge1L_4
            have hzA2 := EA2.size
            have BA2_800 := (BL1_800.fr E4 (fun h => tn1L_1_800 _ h rfl)).fr EA2 (fun h => ne1L_4_800 _ h rfl)
            have BA2_21 := (BL1_21.fr E4 (fun h => tn1L_1_21 _ h rfl)).fr EA2 (fun h => ne1L_4_21 _ h rfl)
            have BA2_60 := hC2.blk.fr EA2 (fun h => ne1L_4_60 _ h rfl)
            have sa2_1 : ∀ k, tb st1_1 T2 k → ob sq2 k → False := fun k hk h2 => (AP2.blk k h2).elim (fun h => ts1_4 k hk h) (fun h => by have := (hC2.tab).lt hk; omega)
            refine lx_value (want rfl) (as_slice rfl) ?_
            refine lx_nil ?_
            refine wk_region ?_
            refine lx_value (want rfl) (mv_int hs1_5) ?_
            refine lx_value (want rfl) (rn_addN rfl (n := 1) rfl (by omega)) ?_
            refine lx_value (want rfl) (as_int rfl) ?_
            refine lx_nil ?_
            refine wk_region ?_
            refine lx_value (want rfl) (mv_pointer (A1.at 7 rfl rfl)) ?_
            refine lx_call (want rfl) (ent_func cf_59 (argsC (t_pointer rfl) args0)) (cmoves_ct bO dim r st1_1 ct1_1 T2 (movedL dim L2 n (p1, p2, p3) q) hm3 hV3 w7 ⟨BA2_60, (hC2.tab.fr EA2 (fun k hk h => ts1_4 k hk h)), tn1_60⟩ BA2_800) ?_
            rintro _ w8 E5 ⟨sM3, cM3, rfl, hM3⟩
            have F8 := F7.ext E5
            have hz5 := E5.size
            refine lx_value (want rfl) (as_slice rfl) ?_
            refine lx_nil ?_
            have hlen3 : (movedL dim L2 n (p1, p2, p3) q).length = L2.length := by rw [hV3.len, hV2.len]
            have hdec := (moved_valid hV2 hn hab).2
            exact ⟨rfl, (((((((((((((((((((((((((((((((A1.up rfl _).up rfl _).up rfl _).up rfl _).up rfl _).up rfl _).up rfl _).up rfl _).up rfl _).up rfl _).up rfl _).up rfl _).up rfl _).up rfl _).up rfl _).up rfl _).up rfl _).up rfl _).up rfl _).up rfl _).up rfl _).up rfl _).up rfl _).up rfl _).up rfl _).up rfl _).up rfl _).up rfl _).up rfl _).up rfl _).up rfl _), Fr.between F4 F8 (by omega), _, (by rw [hlen3]; omega), movedL dim L2 n (p1, p2, p3) q, m + 1, o ++ movedO dim n (p1, p2, p3), sM3, cM3, sq2, cq2, st1_1, ct1_1, T2, rfl, rfl, rfl, (BA2_800.ext E5), (BA2_21.ext E5), (BA2_60.ext E5), (by rw [List.length_append]; exact rfl), (by rw [List.length_append]; exact own_app (ow2.ext E5)), ge2, ne2_800, ne2_21, ne2_60, ((hC2.tab.fr EA2 (fun k hk h => ts1_4 k hk h)).ext E5), tg1, tn1_800, tn1_21, tn1_60, sa2_1, hM3.wide (fun _ _ => trivial), hm3, hV3, run_step hV2 hn hab hpa hne hrun, by rw [List.length_append]; omega, by rw [hlen3]; omega⟩
          ·
            have hkI := congrArg (fun k : Nat => (k : Int)) (pick_none (dim := dim) (ms := (movesL dim r L2 L2.length)) hpk).symm
            refine lx_nil ?_
            refine wk_cond_f rfl ?_
            refine wk_skip ?_
            refine wk_seq ?_
            refine wk_region ?_
            have hkl := pick_mem (dim := dim) (picks := picks) (m := m) hne
            obtain ⟨x, hmx⟩ : ∃ x, (movesL dim r L2 L2.length)[pickN dim picks (movesL dim r L2 L2.length) m]? = some x := ⟨_, List.getElem?_eq_getElem hkl⟩
            obtain ⟨n, hnl, hab, rfl⟩ := moves_at hmx
            have hpa := pickAt_eq rfl hmx
            obtain ⟨⟨p1, p2, p3⟩, q, hn⟩ := able_some hab
            obtain ⟨hd1, hd2, hd3, hd4⟩ := hV2.at hn
            obtain ⟨bm, om, hsM, _, hcm⟩ := hM2 _ _ hmx
            subst hsM
            have hmo := movedO_len dim n (p1, p2, p3)
            have hV3 := (moved_valid hV2 hn hab).1
            refine lx_value (want rfl) (mv_slice ho1_4) ?_
            refine lx_value (want rfl) (mv_pointer (A1.at 7 rfl rfl)) ?_
            refine lx_value (want rfl) (mv_slice hs1_9) ?_
            refine lx_value (want rfl) (mv_int rfl) ?_
            refine lx_value (want rfl) (rn_index (pickN dim picks (movesL dim r L2 L2.length) m) Tryd.underlying94 sz_82 rfl rfl hkI hkl) ?_
            refine lx_value (want rfl) (rn_load2 ag_82 sz_82 rfl (hcm 0 _ rfl) (hcm 1 _ rfl)) ?_
            refine lx_call (want rfl) (ent_func cf_62 (argsC (t_pointer rfl) (argsC (t_agg rfl) args0))) (moveN (move_ct bO dim r st1_1 ct1_1 TT1_1 L2 hm2 hV2 (n / (dim + 1)) (n % (dim + 1)) hd3 hd4 p1 p2 p3 q (by rw [div_mod_n]; exact hn) w5 ⟨BL1_60, tw1L_1, tn1L_1_60⟩ BL1_800 tn1L_1_800)) ?_
            rintro _ w6 E6 ⟨T2, so, co, rfl, hC2, hm3, hG2, hP2⟩
            have F9 := F5.new E6 (fun k h => tg1L_1 k h)
            have hz6 := E6.size
            have tg2 : ∀ k, tb st1_1 T2 k → w0.heap.size ≤ k := fun k hk => (hG2 k hk).elim (tg1L_1 k) (fun h => by omega)
            have tn2_800 : ∀ k, tb st1_1 T2 k → k ≠ 1 := fun k hk => (hG2 k hk).elim (tn1L_1_800 k) (fun h => by have := (BL1_800).lt; omega)
            have tn2_21 : ∀ k, tb st1_1 T2 k → k ≠ b21 := fun k hk => (hG2 k hk).elim (tn1L_1_21 k) (fun h => by have := (BL1_21).lt; omega)
            have tn2_60 : ∀ k, tb st1_1 T2 k → k ≠ bO := fun k hk => (hG2 k hk).elim (tn1L_1_60 k) (fun h => by have := (hC2.blk).lt; omega)
            have ts2_4 : ∀ k, tb st1_1 T2 k → ob so1_4 k → False := fun k hk h2 => (hG2 k hk).elim (fun h => ts1L_1_4 k h h2) (fun h => by have := (ow1L_4).lt h2; omega)
            refine lx_append 24 (want rfl) Tryd.underlying49 ti_41 (by decide) rfl (by decide) rfl rfl (ow1L_4.fr E6 (fun k h1 h => ts1L_1_4 k h h1)) (hP2.src (fun _ _ => rfl) (fun _ _ u hu => pk_one hu) (by decide)) (by omega) ?_
            intro sq3 cq3 w7 AP3
            have EA3 := AP3.fr
            have ow3 := AP3.own
            have ge3 : ∀ k, ob sq3 k → w0.heap.size ≤ k := fun k hk => (AP3.blk k hk).elim (ge1L_4 k) (fun h => Nat.le_trans F9.size h)
            have ne3_800 : ∀ k, ob sq3 k → k ≠ 1 := fun k hk => (AP3.blk k hk).elim (ne1L_4_800 k) (fun h => by have := ((BL1_800.fr E6 (fun h => tn1L_1_800 _ h rfl))).lt; omega)
            have ne3_21 : ∀ k, ob sq3 k → k ≠ b21 := fun k hk => (AP3.blk k hk).elim (ne1L_4_21 k) (fun h => by have := ((BL1_21.fr E6 (fun h => tn1L_1_21 _ h rfl))).lt; omega)
            have ne3_60 : ∀ k, ob sq3 k → k ≠ bO := fun k hk => (AP3.blk k hk).elim (ne1L_4_60 k) (fun h => by have := (hC2.blk).lt; omega)
            have F10 := F9.new EA3 ge1L_4
            have hzA3 := EA3.size
            have BA3_800 := (BL1_800.fr E6 (fun h => tn1L_1_800 _ h rfl)).fr EA3 (fun h => ne1L_4_800 _ h rfl)
            have BA3_21 := (BL1_21.fr E6 (fun h => tn1L_1_21 _ h rfl)).fr EA3 (fun h => ne1L_4_21 _ h rfl)
            have BA3_60 := hC2.blk.fr EA3 (fun h => ne1L_4_60 _ h rfl)
            have sa3_1 : ∀ k, tb st1_1 T2 k → ob sq3 k → False := fun k hk h2 => (AP3.blk k h2).elim (fun h => ts2_4 k hk h) (fun h => by have := (hC2.tab).lt hk; omega)
            refine lx_value (want rfl) (as_slice rfl) ?_
            refine lx_nil ?_
            refine wk_region ?_
            refine lx_value (want rfl) (mv_int hs1_5) ?_
            refine lx_value (want rfl) (rn_addN rfl (n := 1) rfl (by omega)) ?_
            refine lx_value (want rfl) (as_int rfl) ?_
            refine lx_nil ?_
            refine wk_region ?_
            refine lx_value (want rfl) (mv_pointer (A1.at 7 rfl rfl)) ?_
            refine lx_call (want rfl) (ent_func cf_59 (argsC (t_pointer rfl) args0)) (cmoves_ct bO dim r st1_1 ct1_1 T2 (movedL dim L2 n (p1, p2, p3) q) hm3 hV3 w7 ⟨BA3_60, (hC2.tab.fr EA3 (fun k hk h => ts2_4 k hk h)), tn2_60⟩ BA3_800) ?_
            rintro _ w8 E7 ⟨sM3, cM3, rfl, hM3⟩
            have F11 := F10.ext E7
            have hz7 := E7.size
            refine lx_value (want rfl) (as_slice rfl) ?_
            refine lx_nil ?_
            have hlen3 : (movedL dim L2 n (p1, p2, p3) q).length = L2.length := by rw [hV3.len, hV2.len]
            have hdec := (moved_valid hV2 hn hab).2
            exact ⟨rfl, (((((((((((((((((((((((A1.up rfl _).up rfl _).up rfl _).up rfl _).up rfl _).up rfl _).up rfl _).up rfl _).up rfl _).up rfl _).up rfl _).up rfl _).up rfl _).up rfl _).up rfl _).up rfl _).up rfl _).up rfl _).up rfl _).up rfl _).up rfl _).up rfl _).up rfl _), Fr.between F4 F11 (by omega), _, (by rw [hlen3]; omega), movedL dim L2 n (p1, p2, p3) q, m + 1, o ++ movedO dim n (p1, p2, p3), sM3, cM3, sq3, cq3, st1_1, ct1_1, T2, rfl, rfl, rfl, (BA3_800.ext E7), (BA3_21.ext E7), (BA3_60.ext E7), (by rw [List.length_append]; exact rfl), (by rw [List.length_append]; exact own_app (ow3.ext E7)), ge3, ne3_800, ne3_21, ne3_60, ((hC2.tab.fr EA3 (fun k hk h => ts2_4 k hk h)).ext E7), tg2, tn2_800, tn2_21, tn2_60, sa3_1, hM3.wide (fun _ _ => trivial), hm3, hV3, run_step hV2 hn hab hpa hne hrun, by rw [List.length_append]; omega, by rw [hlen3]; omega⟩
        ·
          refine lx_nil ?_
          refine wk_cond_f rfl ?_
          refine wk_exit ?_
          refine wk_seq ?_
          refine wk_region ?_
          refine lx_value (want rfl) (mv_slice ho1_4) ?_
          refine lx_value (want rfl) (mv_int hs1_5) ?_
          refine lx_value (want rfl) (as_slice rfl) ?_
          refine lx_value (want rfl) (as_int rfl) ?_
          refine lx_value (want rfl) (as_int rfl) ?_
          refine lx_nil ?_
          refine wk_ret ?_
          refine retR3 Tryd.results35 (.tmp (t_slice rfl)) (.tmp (t_int rfl)) (.tmp (t_int rfl)) F5 ?_
          exact run_ok hV h60 hpos hrun hlt ow1L_4 rfl ge1L_4

set_option maxHeartbeats 2000000 in
theorem xrounds_ct (d r : Int) (L : List (List Pk)) (s : Option Addr) (c : Nat) (G : Nat → Prop) (hB : Bd L) (w0 : World) (hL : BufS G w0 s L) (hT : Tb w0 1) :
    CT Tryd.prog 40 [.agg #[.int .i64 d, .int .i64 r, .slice s L.length c]] w0 no (fun v w => RoundsQ w0.heap.size d r L v w) := by
  have hTl := hT.lt
  have F0 := Fr.refl no w0
  refine ct_body Tryd.func40 rfl Tryd.ntmps40 (Nat.le_of_ble_eq_true rfl) ?_
  refine wk_seq ?_
  refine wk_region ?_
  refine lx_new (want rfl) (rn_box (t_agg rfl)) ?_
  intro b21 w1 hb21 Eb21 B21 hlb21
  have F1 := F0.ext Eb21
  have hzb21 := Eb21.size
  refine lx_value (want rfl) (as_slice rfl) ?_
  refine lx_value (want rfl) (as_int rfl) ?_
  refine lx_value (want rfl) (as_int rfl) ?_
  refine lx_nil ?_
  refine wk_seq ?_
  refine wk_region ?_
  refine lx_value (want rfl) (rn_loadBlk ag_24 sz_24 rfl B21 rfl rfl) ?_
  refine lx_call (want rfl) (ent_func cf_51 (argsC (t_agg rfl) args0)) (openR (open_ct _ _ _ _ _ _ hB w1 (hL.fr (buf_stab _) F1 (fun _ _ h => h)) (hT.ext Eb21))) ?_
  rintro _ w2 E1 ⟨pO, rfl, hO⟩
  have F2 := F1.ext E1
  have hz1 := E1.size
  refine lx_value (want rfl) (mv_tuple rfl) ?_
  refine lx_value (want rfl) (rn_extract rfl rfl) ?_
  refine lx_value (want rfl) (rn_extract rfl rfl) ?_
  refine lx_value (want rfl) (as_pointer rfl) ?_
  refine lx_value (want rfl) (as_int rfl) ?_
  refine lx_nil ?_
  refine wk_seq ?_
  refine wk_seq ?_
  refine wk_region ?_
  refine lx_value (want rfl) (mv_int rfl) ?_
  refine lx_value (want rfl) (rn_neq rfl rfl) ?_
  refine lx_dec (fun h1 => ?_) (fun h1 => ?_)
  ·
    refine lx_nil ?_
    refine wk_cond_t rfl ?_
    refine wk_seq ?_
    refine wk_region ?_
    refine lx_value (want rfl) (mv_int rfl) ?_
    refine lx_value (want rfl) (as_slice rfl) ?_
    refine lx_value (want rfl) (as_int rfl) ?_
    refine lx_value (want rfl) (as_int rfl) ?_
    refine lx_nil ?_
    refine wk_ret ?_
    refine retR3 Tryd.results40 (.tmp (t_slice rfl)) (.tmp (t_int rfl)) (.tmp (t_int rfl)) F2 ?_
    exact rounds_bad h1
  ·
    obtain ⟨dim, bO, sO, cO, TO, rfl, hV, rfl, hCO, hmO, hbO, hgO⟩ := hO (Decidable.not_not.1 h1)
    have hd := hV.hd
    have hnL := hV.len
    have h32 := prod_le hd
    have hle := leftN_le (dim := dim) (fun n l h => hV.le8 h) (Nat.le_refl L.length)
    have hgO0 : ∀ k, tb sO TO k → w0.heap.size ≤ k := fun k hk => by have := hgO k hk; omega
    have hbOl := hCO.blk.lt
    have nO_800 : ∀ k, tb sO TO k → k ≠ 1 := fun k hk => by have := hgO k hk; have := (hT).lt; omega
    have nO_21 : ∀ k, tb sO TO k → k ≠ b21 := fun k hk => by have := hgO k hk; have := (B21).lt; omega
    refine lx_nil ?_
    refine wk_cond_f rfl ?_
    refine wk_skip ?_
    refine wk_seq ?_
    refine wk_block ?_
    refine wk_loopA [2, 3, 14, 15, 16, 17, 18, 19, 20, 21, 22] (fun j => no j ∨ w0.heap.size ≤ j) (fun nM ρ w => ∃ (L2 : List (List Pk)) (m : Nat) (o : List Pk) (so1_2 : Option Addr) (co1_2 : Nat) (st1_1 : Option Addr) (ct1_1 : Nat) (TT1_1 : List (TE Pk)), nM = leftN dim L2 L2.length ∧ ρ 3 = .int .i64 m ∧ Tb w 1 ∧ Blk w b21 (cellsOf B21) 24 ∧ Blk w bO [.int .i64 dim, .int .i64 r, .slice st1_1 TT1_1.length ct1_1] 76 ∧ ρ 2 = .slice so1_2 (o.length) co1_2 ∧ OwnS w 41 3 so1_2 (o.length) co1_2 (o.flatMap pkC) ∧ (∀ k, ob so1_2 k → w0.heap.size ≤ k) ∧ (∀ k, ob so1_2 k → k ≠ 1) ∧ (∀ k, ob so1_2 k → k ≠ b21) ∧ (∀ k, ob so1_2 k → k ≠ bO) ∧ Tab w 49 41 3 pkC st1_1 ct1_1 TT1_1 ∧ (∀ k, tb st1_1 TT1_1 k → w0.heap.size ≤ k) ∧ (∀ k, tb st1_1 TT1_1 k → k ≠ 1) ∧ (∀ k, tb st1_1 TT1_1 k → k ≠ b21) ∧ (∀ k, tb st1_1 TT1_1 k → k ≠ bO) ∧ (∀ k, tb st1_1 TT1_1 k → ob so1_2 k → False) ∧ (TT1_1.map (·.2.2) = L2) ∧ (Valid dim r L2) ∧ (rdsF dim r (leftN dim L2 L2.length) L2 m o = rdsF dim r (leftN dim L L.length) L 0 []) ∧ (o.length ≤ 32 * m) ∧ (m + leftN dim L2 L2.length ≤ leftN dim L L.length)) _ ⟨L, 0, [], none, 0, sO, cO, TO, rfl, rfl, ((hT.ext Eb21).ext E1), (B21.ext E1), hCO.blk, rfl, (OwnS.nil w2 41 3), (fun _ h => ob_none h), (fun _ h => ob_none h), (fun _ h => ob_none h), (fun _ h => ob_none h), hCO.tab, hgO0, nO_800, nO_21, hCO.ne, (fun _ _ h => ob_none h), hmO, hV, rfl, by simp, by omega⟩ ?_
    rintro n1 ρ1 w3 A1 EL1 ⟨L2, m, o, so1_2, co1_2, st1_1, ct1_1, TT1_1, rfl, hs1_3, BL1_800, BL1_21, BL1_60, ho1_2, ow1L_2, ge1L_2, ne1L_2_800, ne1L_2_21, ne1L_2_60, tw1L_1, tg1L_1, tn1L_1_800, tn1L_1_21, tn1L_1_60, ts1L_1_2, hm2, hV2, hrun, hom, hml⟩
    have F3 := F2.wide EL1
    have hzL1 := EL1.size
    refine wk_seq ?_
    refine wk_seq ?_
    refine wk_region ?_
    refine lx_value (want rfl) (mv_pointer (A1.at 5 rfl rfl)) ?_
    refine lx_call (want rfl) (ent_func cf_52 (argsC (t_pointer rfl) args0)) (cleft_ct bO dim r st1_1 ct1_1 TT1_1 L2 hm2 hV2 w3 ⟨BL1_60, tw1L_1, tn1L_1_60⟩ BL1_800) ?_
    rintro _ w4 E2 rfl
    have F4 := F3.ext E2
    have hz2 := E2.size
    refine lx_value (want rfl) (rn_gtr rfl rfl) ?_
    refine lx_dec (fun hlf => ?_) (fun hlf => ?_)
    ·
      have hm0 : manyN L2 ≠ 0 := fun e => by have := many_left (dim := dim) e; omega
      refine lx_nil ?_
      refine wk_cond_t rfl ?_
      refine wk_skip ?_
      refine wk_block ?_
      refine wk_seq ?_
      refine wk_region ?_
      refine lx_value (want rfl) (mv_slice ho1_2) ?_
      refine lx_value (want rfl) (mv_pointer (A1.at 5 rfl rfl)) ?_
      refine lx_call (want rfl) (ent_func cf_68 (argsC (t_pointer rfl) args0)) (cround_ct bO dim r st1_1 ct1_1 TT1_1 L2 hm2 hV2 w4 ⟨(BL1_60.ext E2), (tw1L_1.ext E2), tn1L_1_60⟩ (BL1_800.ext E2) tn1L_1_800) ?_
      rintro _ w5 E3 ⟨s2, c2, T2, so, co, rfl, hC2, hm3, hG2, hP2⟩
      have F5 := F4.new E3 (fun k h => tg1L_1 k h)
      have hz3 := E3.size
      have tg1 : ∀ k, tb s2 T2 k → w0.heap.size ≤ k := fun k hk => (hG2 k hk).elim (tg1L_1 k) (fun h => by omega)
      have tn1_800 : ∀ k, tb s2 T2 k → k ≠ 1 := fun k hk => (hG2 k hk).elim (tn1L_1_800 k) (fun h => by have := (BL1_800).lt; omega)
      have tn1_21 : ∀ k, tb s2 T2 k → k ≠ b21 := fun k hk => (hG2 k hk).elim (tn1L_1_21 k) (fun h => by have := (BL1_21).lt; omega)
      have tn1_60 : ∀ k, tb s2 T2 k → k ≠ bO := fun k hk => (hG2 k hk).elim (tn1L_1_60 k) (fun h => by have := (hC2.blk).lt; omega)
      have ts1_2 : ∀ k, tb s2 T2 k → ob so1_2 k → False := fun k hk h2 => (hG2 k hk).elim (fun h => ts1L_1_2 k h h2) (fun h => by have := (ow1L_2).lt h2; omega)
      have hro := (rdB_8 hV2 L2.length).2
      have hrl := round_left hV2
      have hrg := round_go hV2 (by omega)
      have hV3 := round_valid hV2 L2.length
      have hlen3 : (rdB dim r L2 L2.length).1.length = L2.length := by rw [hV3.len, hV2.len]
      have hlen2 : L2.length = L.length := by rw [hV2.len, hV.len]
      refine lx_append 24 (want rfl) Tryd.underlying49 ti_41 (by decide) rfl (by decide) rfl rfl ((ow1L_2.ext E2).fr E3 (fun k h1 h => ts1L_1_2 k h h1)) (hP2.src (fun _ _ => rfl) (fun _ _ u hu => pk_one hu) (by decide)) (by omega) ?_
      intro sq2 cq2 w6 AP2
      have EA2 := AP2.fr
      have ow2 := AP2.own
      have ge2 : ∀ k, ob sq2 k → w0.heap.size ≤ k := fun k hk => (AP2.blk k hk).elim (ge1L_2 k) (fun h => Nat.le_trans F5.size h)
      have ne2_800 : ∀ k, ob sq2 k → k ≠ 1 := fun k hk => (AP2.blk k hk).elim (ne1L_2_800 k) (fun h => by have := (((BL1_800.ext E2).fr E3 (fun h => tn1L_1_800 _ h rfl))).lt; omega)
      have ne2_21 : ∀ k, ob sq2 k → k ≠ b21 := fun k hk => (AP2.blk k hk).elim (ne1L_2_21 k) (fun h => by have := (((BL1_21.ext E2).fr E3 (fun h => tn1L_1_21 _ h rfl))).lt; omega)
      have ne2_60 : ∀ k, ob sq2 k → k ≠ bO := fun k hk => (AP2.blk k hk).elim (ne1L_2_60 k) (fun h => by have := (hC2.blk).lt; omega)
      have F6 := F5.new EA2 ge1L_2
      have hzA2 := EA2.size
      have BA2_800 := ((BL1_800.ext E2).fr E3 (fun h => tn1L_1_800 _ h rfl)).fr EA2 (fun h => ne1L_2_800 _ h rfl)
      have BA2_21 := ((BL1_21.ext E2).fr E3 (fun h => tn1L_1_21 _ h rfl)).fr EA2 (fun h => ne1L_2_21 _ h rfl)
      have BA2_60 := hC2.blk.fr EA2 (fun h => ne1L_2_60 _ h rfl)
      have sa2_1 : ∀ k, tb s2 T2 k → ob sq2 k → False := fun k hk h2 => (AP2.blk k h2).elim (fun h => ts1_2 k hk h) (fun h => by have := (hC2.tab).lt hk; omega)
      refine lx_value (want rfl) (as_slice rfl) ?_
      refine lx_nil ?_
      refine wk_region ?_
      refine lx_value (want rfl) (mv_int hs1_3) ?_
      refine lx_value (want rfl) (rn_addN rfl (n := 1) rfl (by omega)) ?_
      refine lx_value (want rfl) (as_int rfl) ?_
      refine lx_nil ?_
      exact ⟨rfl, (((((((((((A1.up rfl _).up rfl _).up rfl _).up rfl _).up rfl _).up rfl _).up rfl _).up rfl _).up rfl _).up rfl _).up rfl _), Fr.between F2 F6 (by omega), _, (by rw [hlen3]; omega), (rdB dim r L2 L2.length).1, m + 1, o ++ (rdB dim r L2 L2.length).2, sq2, cq2, s2, c2, T2, rfl, rfl, BA2_800, BA2_21, BA2_60, (by rw [List.length_append]; exact rfl), (by rw [List.length_append]; exact own_app ow2), ge2, ne2_800, ne2_21, ne2_60, (hC2.tab.fr EA2 (fun k hk h => ts1_2 k hk h)), tg1, tn1_800, tn1_21, tn1_60, sa2_1, hm3, hV3, rds_step hV2 hm0 hrun, by rw [List.length_append]; omega, by rw [hlen3]; omega⟩
    ·
      refine lx_nil ?_
      refine wk_cond_f rfl ?_
      refine wk_exit ?_
      refine wk_seq ?_
      refine wk_region ?_
      refine lx_value (want rfl) (mv_slice ho1_2) ?_
      refine lx_value (want rfl) (mv_int hs1_3) ?_
      refine lx_value (want rfl) (as_slice rfl) ?_
      refine lx_value (want rfl) (as_int rfl) ?_
      refine lx_value (want rfl) (as_int rfl) ?_
      refine lx_nil ?_
      refine wk_ret ?_
      refine retR3 Tryd.results40 (.tmp (t_slice rfl)) (.tmp (t_int rfl)) (.tmp (t_int rfl)) F4 ?_
      exact rounds_ok hV hrun (left_many (dim := dim) (by omega)) (ow1L_2.ext E2) rfl ge1L_2

set_option maxHeartbeats 1000000 in
theorem xmoves_ct (d r : Int) (L : List (List Pk)) (s : Option Addr) (c : Nat) (G : Nat → Prop) (hB : Bd L) (w0 : World) (hL : BufS G w0 s L) (hT : Tb w0 1) :
    CT Tryd.prog 30 [.agg #[.int .i64 d, .int .i64 r, .slice s L.length c]] w0 no (fun v w => MovesQ w0.heap.size d r L v w) := by
  have hTl := hT.lt
  have F0 := Fr.refl no w0
  refine ct_body Tryd.func30 rfl Tryd.ntmps30 (Nat.le_of_ble_eq_true rfl) ?_
  refine wk_seq ?_
  refine wk_region ?_
  refine lx_new (want rfl) (rn_box (t_agg rfl)) ?_
  intro b21 w1 hb21 Eb21 B21 hlb21
  have F1 := F0.ext Eb21
  have hzb21 := Eb21.size
  refine lx_value (want rfl) (as_slice rfl) ?_
  refine lx_value (want rfl) (as_int rfl) ?_
  refine lx_nil ?_
  refine wk_seq ?_
  refine wk_region ?_
  refine lx_value (want rfl) (rn_loadBlk ag_24 sz_24 rfl B21 rfl rfl) ?_
  refine lx_call (want rfl) (ent_func cf_51 (argsC (t_agg rfl) args0)) (openR (open_ct _ _ _ _ _ _ hB w1 (hL.fr (buf_stab _) F1 (fun _ _ h => h)) (hT.ext Eb21))) ?_
  rintro _ w2 E1 ⟨pO, rfl, hO⟩
  have F2 := F1.ext E1
  have hz1 := E1.size
  refine lx_value (want rfl) (mv_tuple rfl) ?_
  refine lx_value (want rfl) (rn_extract rfl rfl) ?_
  refine lx_value (want rfl) (rn_extract rfl rfl) ?_
  refine lx_value (want rfl) (as_pointer rfl) ?_
  refine lx_value (want rfl) (as_int rfl) ?_
  refine lx_nil ?_
  refine wk_seq ?_
  refine wk_seq ?_
  refine wk_region ?_
  refine lx_value (want rfl) (mv_int rfl) ?_
  refine lx_value (want rfl) (rn_neq rfl rfl) ?_
  refine lx_dec (fun h1 => ?_) (fun h1 => ?_)
  ·
    refine lx_nil ?_
    refine wk_cond_t rfl ?_
    refine wk_seq ?_
    refine wk_region ?_
    refine lx_value (want rfl) (mv_int rfl) ?_
    refine lx_value (want rfl) (as_slice rfl) ?_
    refine lx_value (want rfl) (as_int rfl) ?_
    refine lx_nil ?_
    refine wk_ret ?_
    refine retR2 Tryd.results30 (.tmp (t_slice rfl)) (.tmp (t_int rfl)) F2 ?_
    exact moves_bad h1
  ·
    obtain ⟨dim, bO, sO, cO, TO, rfl, hV, rfl, hCO, hmO, hbO, hgO⟩ := hO (Decidable.not_not.1 h1)
    have hgO0 : ∀ k, tb sO TO k → w0.heap.size ≤ k := fun k hk => by have := hgO k hk; omega
    have hbOl := hCO.blk.lt
    have nO_800 : ∀ k, tb sO TO k → k ≠ 1 := fun k hk => by have := hgO k hk; have := (hT).lt; omega
    have nO_21 : ∀ k, tb sO TO k → k ≠ b21 := fun k hk => by have := hgO k hk; have := (B21).lt; omega
    refine lx_nil ?_
    refine wk_cond_f rfl ?_
    refine wk_skip ?_
    refine wk_seq ?_
    refine wk_seq ?_
    refine wk_region ?_
    have hml := moves_len dim r L L.length
    have hnL := hV.len
    have hd := hV.hd
    have h32 := prod_le hd
    refine lx_value (want rfl) (mv_pointer rfl) ?_
    refine lx_call (want rfl) (ent_func cf_59 (argsC (t_pointer rfl) args0)) (cmoves_ct bO dim r sO cO TO L hmO hV w2 ⟨hCO.blk, hCO.tab, hCO.ne⟩ ((hT.ext Eb21).ext E1)) ?_
    rintro _ w3 E2 ⟨sV, cV, rfl, hMV⟩
    have F3 := F2.ext E2
    have hz2 := E2.size
    refine lx_value (want rfl) (rn_len Tryd.underlying94 rfl) ?_
    refine lx_value (want rfl) (mv_int rfl) ?_
    refine lx_nil ?_
    refine wk_block ?_
    refine wk_loopA [2, 6, 18, 19, 20, 21, 22, 23, 24, 25, 26, 27, 28, 29, 30] (fun j => no j ∨ w0.heap.size ≤ j) (fun nM ρ w => ∃ (i : Nat) (so1_1 : Option Addr) (co1_1 : Nat), nM = (movesL dim r L L.length).length - i ∧ ρ 18 = .int .i64 i ∧ Tb w 1 ∧ Blk w b21 (cellsOf B21) 24 ∧ ρ 2 = .slice so1_1 (i) co1_1 ∧ OwnS w 45 2 so1_1 (i) co1_1 (((movesL dim r L L.length).take i).flatMap mvC) ∧ (∀ k, ob so1_1 k → w0.heap.size ≤ k) ∧ (∀ k, ob so1_1 k → k ≠ 1) ∧ (∀ k, ob so1_1 k → k ≠ b21) ∧ (MvS (Iv w2.heap.size w3.heap.size) w sV (movesL dim r L L.length)) ∧ (∀ k, ob so1_1 k → w3.heap.size ≤ k) ∧ (i ≤ (movesL dim r L L.length).length)) _ ⟨0, none, 0, rfl, rfl, (((hT.ext Eb21).ext E1).ext E2), ((B21.ext E1).ext E2), rfl, ((OwnS.nil w2 45 2).ext E2), (fun _ h => ob_none h), (fun _ h => ob_none h), (fun _ h => ob_none h), hMV, (fun k h => ob_none h), by omega⟩ ?_
    rintro n1 ρ1 w4 A1 EL1 ⟨i, so1_1, co1_1, rfl, hs1_18, BL1_800, BL1_21, ho1_1, ow1L_1, ge1L_1, ne1L_1_800, ne1L_1_21, hMVw, hob, hi⟩
    have F4 := F3.wide EL1
    have hzL1 := EL1.size
    refine wk_seq ?_
    refine wk_region ?_
    refine lx_value (want rfl) (rn_lss hs1_18 (A1.at 17 rfl rfl)) ?_
    refine lx_dec (fun hlt => ?_) (fun hlt => ?_)
    ·
      obtain ⟨x, hx⟩ := getx hlt
      obtain ⟨bx, ox, hsx, _, hcx⟩ := hMVw i x hx
      subst hsx
      refine lx_nil ?_
      refine wk_seq ?_
      refine wk_cond_t rfl ?_
      refine wk_skip ?_
      refine wk_seq ?_
      refine wk_block ?_
      refine wk_seq ?_
      refine wk_region ?_
      refine lx_value (want rfl) (rn_index _ Tryd.underlying94 sz_82 (A1.at 16 rfl rfl) hs1_18 rfl (by omega)) ?_
      refine lx_value (want rfl) (rn_load2 ag_82 sz_82 rfl (hcx 0 _ rfl) (hcx 1 _ rfl)) ?_
      refine lx_new (want rfl) (rn_alloc ze_82) ?_
      intro b22 w5 hb22 Eb22 B22 hlb22
      have F5 := F4.ext Eb22
      have hzb22 := Eb22.size
      have nb1 : ∀ k, ob so1_1 k → k ≠ b22 := fun k hk => by have := (ow1L_1).lt hk; omega
      refine lx_set (want rfl) sz_82 rfl (t_agg rfl) rfl rfl rfl B22 (Nat.le_of_ble_eq_true rfl) ?_
      intro w6 Es1 Bs1
      have F6 := F5.set Es1 (by omega)
      have hzs1 := Es1.size
      refine lx_nil ?_
      refine wk_region ?_
      refine lx_value (want rfl) (mv_slice ho1_1) ?_
      refine lx_value (want rfl) (rn_fieldAddr fa_82_0 rfl) ?_
      refine lx_value (want rfl) (rn_load1Blk ag_3 rfl Bs1 rfl) ?_
      refine lx_value (want rfl) (rn_fieldAddr fa_82_1 rfl) ?_
      refine lx_value (want rfl) (rn_load1Blk ag_3 rfl Bs1 rfl) ?_
      refine lx_value (want rfl) (rn_build2 (t_int rfl) (t_int rfl) (fun w => bd_45_0_1 _ _ w)) ?_
      refine lx_newS (want rfl) (rn_bslice (xs := [.tmp 27]) Tryd.underlying46 sz_45 ze_45 rfl (argsC (t_agg rfl) args0) (CL.cons rfl rfl CL.nil) rfl (Nat.le_of_ble_eq_true rfl)) ?_
      intro b23 w7 hb23 Eb23 B23 hlb23
      have F7 := F6.ext Eb23
      have hzb23 := Eb23.size
      have nb2 : ∀ k, ob so1_1 k → k ≠ b23 := fun k hk => by have := (ow1L_1).lt hk; omega
      refine lx_append 16 (want rfl) Tryd.underlying46 ti_45 (by decide) rfl (by decide) rfl rfl (((ow1L_1.ext Eb22).ne Es1 (fun h => nb1 _ h rfl)).ext Eb23) (Src.blk B23 rfl rfl) (by omega) ?_
      intro sq2 cq2 w8 AP2
      have EA2 := AP2.fr
      have ow2 := AP2.own
      have ge2 : ∀ k, ob sq2 k → w0.heap.size ≤ k := fun k hk => (AP2.blk k hk).elim (ge1L_1 k) (fun h => Nat.le_trans F7.size h)
      have ne2_800 : ∀ k, ob sq2 k → k ≠ 1 := fun k hk => (AP2.blk k hk).elim (ne1L_1_800 k) (fun h => by have := ((((BL1_800.ext Eb22).ne Es1 (by omega)).ext Eb23)).lt; omega)
      have ne2_21 : ∀ k, ob sq2 k → k ≠ b21 := fun k hk => (AP2.blk k hk).elim (ne1L_1_21 k) (fun h => by have := ((((BL1_21.ext Eb22).ne Es1 (by omega)).ext Eb23)).lt; omega)
      have ne2_22 : ∀ k, ob sq2 k → k ≠ b22 := fun k hk => (AP2.blk k hk).elim (nb1 k) (fun h => by have := ((Bs1.ext Eb23)).lt; omega)
      have ne2_23 : ∀ k, ob sq2 k → k ≠ b23 := fun k hk => (AP2.blk k hk).elim (nb2 k) (fun h => by have := (B23).lt; omega)
      have F8 := F7.new EA2 ge1L_1
      have hzA2 := EA2.size
      have BA2_800 := (((BL1_800.ext Eb22).ne Es1 (by omega)).ext Eb23).fr EA2 (fun h => ne1L_1_800 _ h rfl)
      have BA2_21 := (((BL1_21.ext Eb22).ne Es1 (by omega)).ext Eb23).fr EA2 (fun h => ne1L_1_21 _ h rfl)
      have BA2_22 := (Bs1.ext Eb23).fr EA2 (fun h => nb1 _ h rfl)
      have BA2_23 := B23.fr EA2 (fun h => nb2 _ h rfl)
      refine lx_value (want rfl) (as_slice rfl) ?_
      refine lx_nil ?_
      refine wk_region ?_
      refine lx_value (want rfl) (rn_add hs1_18 rfl (by omega)) ?_
      refine lx_value (want rfl) (mv_int rfl) ?_
      refine lx_nil ?_
      exact ⟨rfl, ((((((((((((((((A1.up rfl _).up rfl _).up rfl _).up rfl _).none _).up rfl _).up rfl _).up rfl _).up rfl _).up rfl _).up rfl _).up rfl _).up rfl _).up rfl _).up rfl _).up rfl _), Fr.between F3 F8 (by omega), _, (by omega), i + 1, sq2, cq2, rfl, rfl, BA2_800, BA2_21, rfl, (mv_snoc hx ow2), ge2, ne2_800, ne2_21, MvS.on hMVw (Fr.trans (Fr.ext (Fr.trans (Fr.ext (Fr.refl (fun k => k = b22 ∨ ob so1_1 k) w4) Eb22) Es1 (fun k _ h => (.inl h))) Eb23) EA2 (fun k _ h => (.inr h))) (fun k hk h => by have := hk.2; (try dsimp only at h); rcases h with h | h <;> first | omega | (have := hob k h; omega)) (fun k hk => hk), (fun k hk => (AP2.blk k hk).elim (hob k) (fun h => by omega)), by omega⟩
    ·
      refine lx_nil ?_
      refine wk_seq ?_
      refine wk_cond_f rfl ?_
      refine wk_exit ?_
      refine wk_seq ?_
      refine wk_region ?_
      refine lx_value (want rfl) (mv_slice ho1_1) ?_
      refine lx_value (want rfl) (as_slice rfl) ?_
      refine lx_value (want rfl) (as_int rfl) ?_
      refine lx_nil ?_
      refine wk_ret ?_
      refine retR2 Tryd.results30 (.tmp (t_slice rfl)) (.tmp (t_int rfl)) F4 ?_
      exact movesx_ok hV hi hlt rfl ow1L_1 ge1L_1

theorem on_ct (fid : FuncId) (caps : List Value) (hcf : ∀ args w, (callFunc fid args).run Tryd.prog w = .ok (.enter fid args) w) (d r : Int) (L : List (List Pk)) (s : Option Addr) (c : Nat) (G : Nat → Prop) (hB : Bd L) (o : List Pk) (e : Int) (L' : List (List Pk)) (w0 : World) (hL : BufS G w0 s L) (hT : Tb w0 1) (hcl : ∀ (dim : Nat) w b s c T, Ext w0 w → d = (dim : Int) → Valid dim r L → Tb w 1 → CubeP w b dim r s c T → T.map (·.2.2) = L → (∀ k, tb s T k → w0.heap.size ≤ k) → CT Tryd.prog fid (.pointer (some ⟨b, 0, none⟩) :: caps) w (tb s T) (fun v w' => ChgQ w b dim r s T o e L' v w')) :
    CT Tryd.prog 57 [.func (.func fid) #[] caps.toArray, .agg #[.int .i64 d, .int .i64 r, .slice s L.length c]] w0 no (fun v w => OnQ w0.heap.size d r L o e L' v w) := by
  have hTl := hT.lt
  have F0 := Fr.refl no w0
  refine ct_body Tryd.func57 rfl Tryd.ntmps57 (Nat.le_of_ble_eq_true rfl) ?_
  refine wk_seq ?_
  refine wk_region ?_
  refine lx_new (want rfl) (rn_box (t_agg rfl)) ?_
  intro b21 w1 hb21 Eb21 B21 hlb21
  have F1 := F0.ext Eb21
  have hzb21 := Eb21.size
  refine lx_new (want rfl) (rn_alloc ze_24) ?_
  intro b22 w2 hb22 Eb22 B22 hlb22
  have F2 := F1.ext Eb22
  have hzb22 := Eb22.size
  refine lx_value (want rfl) (as_slice rfl) ?_
  refine lx_value (want rfl) (as_int rfl) ?_
  refine lx_nil ?_
  refine wk_seq ?_
  refine wk_region ?_
  refine lx_value (want rfl) (rn_loadBlk ag_24 sz_24 rfl (B21.ext Eb22) rfl rfl) ?_
  refine lx_call (want rfl) (ent_func cf_51 (argsC (t_agg rfl) args0)) (openR (open_ct _ _ _ _ _ _ hB w2 (hL.fr (buf_stab _) F2 (fun _ _ h => h)) ((hT.ext Eb21).ext Eb22))) ?_
  rintro _ w3 E1 ⟨pO, rfl, hO⟩
  have F3 := F2.ext E1
  have hz1 := E1.size
  refine lx_value (want rfl) (mv_tuple rfl) ?_
  refine lx_value (want rfl) (rn_extract rfl rfl) ?_
  refine lx_value (want rfl) (rn_extract rfl rfl) ?_
  refine lx_value (want rfl) (as_pointer rfl) ?_
  refine lx_value (want rfl) (as_int rfl) ?_
  refine lx_nil ?_
  refine wk_seq ?_
  refine wk_seq ?_
  refine wk_region ?_
  refine lx_value (want rfl) (mv_int rfl) ?_
  refine lx_value (want rfl) (rn_neq rfl rfl) ?_
  refine lx_dec (fun h1 => ?_) (fun h1 => ?_)
  ·
    refine lx_nil ?_
    refine wk_cond_t rfl ?_
    refine wk_seq ?_
    refine wk_region ?_
    refine lx_value (want rfl) (rn_build0  (fun w => bd_24  w)) ?_
    refine lx_value (want rfl) (mv_int rfl) ?_
    refine lx_set (want rfl) sz_24 rfl (t_agg rfl) rfl rfl rfl (B22.ext E1) (Nat.le_of_ble_eq_true rfl) ?_
    intro w4 Es1 Bs1
    have F4 := F3.set Es1 (by omega)
    have hzs1 := Es1.size
    refine lx_value (want rfl) (as_slice rfl) ?_
    refine lx_value (want rfl) (as_int rfl) ?_
    refine lx_nil ?_
    refine wk_ret ?_
    refine retR3 Tryd.results57 (.cell rfl (run_loadVar_blk ag_24 sz_24 Bs1 rfl rfl)) (.tmp (t_slice rfl)) (.tmp (t_int rfl)) F4 ?_
    exact .inl ⟨h1, rfl⟩
  ·
    obtain ⟨dim, bO, sO, cO, TO, rfl, hV, rfl, hCO, hmO, hbO, hgO⟩ := hO (Decidable.not_not.1 h1)
    have hgO0 : ∀ k, tb sO TO k → w0.heap.size ≤ k := fun k hk => by have := hgO k hk; omega
    have hbOl := hCO.blk.lt
    have nO_800 : ∀ k, tb sO TO k → k ≠ 1 := fun k hk => by have := hgO k hk; have := (hT).lt; omega
    have nO_21 : ∀ k, tb sO TO k → k ≠ b21 := fun k hk => by have := hgO k hk; have := (B21).lt; omega
    have nO_22 : ∀ k, tb sO TO k → k ≠ b22 := fun k hk => by have := hgO k hk; have := (B22).lt; omega
    refine lx_nil ?_
    refine wk_cond_f rfl ?_
    refine wk_skip ?_
    refine wk_seq ?_
    refine wk_region ?_
    refine lx_value (want rfl) (mv_func rfl) ?_
    refine lx_value (want rfl) (mv_pointer rfl) ?_
    refine lx_call (want rfl) (ent_value hcf rfl (argsC (t_pointer rfl) args0)) (hcl dim w3 bO sO cO TO F3 rfl hV (((hT.ext Eb21).ext Eb22).ext E1) ⟨hCO.blk, hCO.tab, hCO.ne⟩ hmO hgO0) ?_
    rintro _ w4 E2 ⟨sN, cN, TN, so, co, rfl, hCN, hmN, hgN, hPN⟩
    have F5 := F3.new E2 (fun k h => hgO0 k h)
    have hz2 := E2.size
    have tg1 : ∀ k, tb sN TN k → w0.heap.size ≤ k := fun k hk => (hgN k hk).elim (hgO0 k) (fun h => by omega)
    have tn1_60 : ∀ k, tb sN TN k → k ≠ bO := fun k hk => (hgN k hk).elim (hCO.ne k) (fun h => by have := (hCN.blk).lt; omega)
    have tn1_800 : ∀ k, tb sN TN k → k ≠ 1 := fun k hk => (hgN k hk).elim (nO_800 k) (fun h => by have := (hT).lt; omega)
    have tn1_21 : ∀ k, tb sN TN k → k ≠ b21 := fun k hk => (hgN k hk).elim (nO_21 k) (fun h => by have := (B21).lt; omega)
    have tn1_22 : ∀ k, tb sN TN k → k ≠ b22 := fun k hk => (hgN k hk).elim (nO_22 k) (fun h => by have := (B22).lt; omega)
    refine lx_value (want rfl) (mv_tuple rfl) ?_
    refine lx_value (want rfl) (rn_extract rfl rfl) ?_
    refine lx_value (want rfl) (rn_extract rfl rfl) ?_
    refine lx_value (want rfl) (as_slice rfl) ?_
    refine lx_value (want rfl) (as_int rfl) ?_
    refine lx_nil ?_
    refine wk_seq ?_
    refine wk_seq ?_
    refine wk_region ?_
    refine lx_value (want rfl) (mv_int rfl) ?_
    refine lx_value (want rfl) (rn_neq rfl rfl) ?_
    refine lx_dec (fun he => ?_) (fun he => ?_)
    ·
      refine lx_nil ?_
      refine wk_cond_t rfl ?_
      refine wk_seq ?_
      refine wk_region ?_
      refine lx_value (want rfl) (rn_build0  (fun w => bd_24  w)) ?_
      refine lx_value (want rfl) (mv_int rfl) ?_
      refine lx_set (want rfl) sz_24 rfl (t_agg rfl) rfl rfl rfl ((B22.ext E1).fr E2 (fun h => nO_22 _ h rfl)) (Nat.le_of_ble_eq_true rfl) ?_
      intro w5 Es2 Bs2
      have F6 := F5.set Es2 (by omega)
      have hzs2 := Es2.size
      refine lx_value (want rfl) (as_slice rfl) ?_
      refine lx_value (want rfl) (as_int rfl) ?_
      refine lx_nil ?_
      refine wk_ret ?_
      refine retR3 Tryd.results57 (.cell rfl (run_loadVar_blk ag_24 sz_24 Bs2 rfl rfl)) (.tmp (t_slice rfl)) (.tmp (t_int rfl)) F6 ?_
      exact .inr (.inl ⟨hV.chk, he, rfl⟩)
    ·
      refine lx_nil ?_
      refine wk_cond_f rfl ?_
      refine wk_skip ?_
      refine wk_seq ?_
      refine wk_region ?_
      refine lx_value (want rfl) (mv_pointer rfl) ?_
      refine lx_value (want rfl) (rn_nilCheck rfl) ?_
      refine lx_value (want rfl) (rn_fieldAddr fa_76_0 rfl) ?_
      refine lx_value (want rfl) (rn_loadBlk ag_24 sz_24 rfl hCN.blk rfl rfl) ?_
      refine lx_value (want rfl) (mv_slice rfl) ?_
      refine lx_set (want rfl) sz_24 rfl (t_agg rfl) rfl rfl rfl ((B22.ext E1).fr E2 (fun h => nO_22 _ h rfl)) (Nat.le_of_ble_eq_true rfl) ?_
      intro w5 Es3 Bs3
      have F7 := F5.set Es3 (by omega)
      have hzs3 := Es3.size
      refine lx_value (want rfl) (as_slice rfl) ?_
      refine lx_value (want rfl) (as_int rfl) ?_
      refine lx_nil ?_
      refine wk_ret ?_
      refine retR3 Tryd.results57 (.cell rfl (run_loadVar_blk ag_24 sz_24 Bs3 rfl rfl)) (.tmp (t_slice rfl)) (.tmp (t_int rfl)) F7 ?_
      exact on_ok hV.chk (Decidable.not_not.1 he) (tab_cube (hCN.tab.fr Es3 (fun k hk h => tn1_22 k hk h)) hmN tg1 rfl) (hPN.fr (pk_stab _) (Fr.trans (Fr.refl (fun k => k = b22) w4) Es3 (fun k _ h => h)) (fun k hk h => by have := hk.1; (try dsimp only at h); omega)) (fun k hk => by have := hk.1; omega) rfl

theorem xleft_ct (d r : Int) (L : List (List Pk)) (s : Option Addr) (c : Nat) (G : Nat → Prop) (hB : Bd L) (w0 : World) (hL : BufS G w0 s L) (hT : Tb w0 1) :
    CT Tryd.prog 25 [.agg #[.int .i64 d, .int .i64 r, .slice s L.length c]] w0 no (fun v _ => v = .tuple #[.int .i64 (leftQ d r L : Nat), .int .i64 (chkE d r L)]) := by
  have hTl := hT.lt
  have F0 := Fr.refl no w0
  refine ct_body Tryd.func25 rfl Tryd.ntmps25 (Nat.le_of_ble_eq_true rfl) ?_
  refine wk_seq ?_
  refine wk_region ?_
  refine lx_new (want rfl) (rn_box (t_agg rfl)) ?_
  intro b21 w1 hb21 Eb21 B21 hlb21
  have F1 := F0.ext Eb21
  have hzb21 := Eb21.size
  refine lx_value (want rfl) (as_int rfl) ?_
  refine lx_value (want rfl) (as_int rfl) ?_
  refine lx_nil ?_
  refine wk_seq ?_
  refine wk_region ?_
  refine lx_value (want rfl) (rn_loadBlk ag_24 sz_24 rfl B21 rfl rfl) ?_
  refine lx_call (want rfl) (ent_func cf_51 (argsC (t_agg rfl) args0)) (openR (open_ct _ _ _ _ _ _ hB w1 (hL.fr (buf_stab _) F1 (fun _ _ h => h)) (hT.ext Eb21))) ?_
  rintro _ w2 E1 ⟨pO, rfl, hO⟩
  have F2 := F1.ext E1
  have hz1 := E1.size
  refine lx_value (want rfl) (mv_tuple rfl) ?_
  refine lx_value (want rfl) (rn_extract rfl rfl) ?_
  refine lx_value (want rfl) (rn_extract rfl rfl) ?_
  refine lx_value (want rfl) (as_pointer rfl) ?_
  refine lx_value (want rfl) (as_int rfl) ?_
  refine lx_nil ?_
  refine wk_seq ?_
  refine wk_seq ?_
  refine wk_region ?_
  refine lx_value (want rfl) (mv_int rfl) ?_
  refine lx_value (want rfl) (rn_neq rfl rfl) ?_
  refine lx_dec (fun h1 => ?_) (fun h1 => ?_)
  ·
    refine lx_nil ?_
    refine wk_cond_t rfl ?_
    refine wk_seq ?_
    refine wk_region ?_
    refine lx_value (want rfl) (mv_int rfl) ?_
    refine lx_value (want rfl) (as_int rfl) ?_
    refine lx_value (want rfl) (as_int rfl) ?_
    refine lx_nil ?_
    refine wk_ret ?_
    refine retR2 Tryd.results25 (.tmp (t_int rfl)) (.tmp (t_int rfl)) F2 ?_
    exact left_bad h1
  ·
    obtain ⟨dim, bO, sO, cO, TO, rfl, hV, rfl, hCO, hmO, hbO, hgO⟩ := hO (Decidable.not_not.1 h1)
    have hgO0 : ∀ k, tb sO TO k → w0.heap.size ≤ k := fun k hk => by have := hgO k hk; omega
    have hbOl := hCO.blk.lt
    have nO_800 : ∀ k, tb sO TO k → k ≠ 1 := fun k hk => by have := hgO k hk; have := (hT).lt; omega
    have nO_21 : ∀ k, tb sO TO k → k ≠ b21 := fun k hk => by have := hgO k hk; have := (B21).lt; omega
    refine lx_nil ?_
    refine wk_cond_f rfl ?_
    refine wk_skip ?_
    refine wk_seq ?_
    refine wk_region ?_
    refine lx_value (want rfl) (mv_pointer rfl) ?_
    refine lx_call (want rfl) (ent_func cf_52 (argsC (t_pointer rfl) args0)) (cleft_ct bO dim r sO cO TO L hmO hV w2 ⟨hCO.blk, hCO.tab, hCO.ne⟩ ((hT.ext Eb21).ext E1)) ?_
    rintro _ w3 E2 rfl
    have F3 := F2.ext E2
    have hz2 := E2.size
    refine lx_value (want rfl) (as_int rfl) ?_
    refine lx_value (want rfl) (as_int rfl) ?_
    refine lx_nil ?_
    refine wk_ret ?_
    refine retR2 Tryd.results25 (.tmp (t_int rfl)) (.tmp (t_int rfl)) F3 ?_
    exact left_ok hV (Nat.le_refl _) (by omega)

theorem ccheck_ct (d r : Int) (L : List (List Pk)) (s : Option Addr) (c : Nat) (G : Nat → Prop) (hB : Bd L) (w0 : World) (hL : BufS G w0 s L) (hT : Tb w0 1) :
    CT Tryd.prog 24 [.agg #[.int .i64 d, .int .i64 r, .slice s L.length c]] w0 no (fun v _ => v = .int .i64 (chkE d r L)) := by
  have hTl := hT.lt
  have F0 := Fr.refl no w0
  refine ct_body Tryd.func24 rfl Tryd.ntmps24 (Nat.le_of_ble_eq_true rfl) ?_
  refine wk_seq ?_
  refine wk_region ?_
  refine lx_new (want rfl) (rn_box (t_agg rfl)) ?_
  intro b21 w1 hb21 Eb21 B21 hlb21
  have F1 := F0.ext Eb21
  have hzb21 := Eb21.size
  refine lx_value (want rfl) (as_int rfl) ?_
  refine lx_nil ?_
  refine wk_seq ?_
  refine wk_region ?_
  refine lx_value (want rfl) (rn_loadBlk ag_24 sz_24 rfl B21 rfl rfl) ?_
  refine lx_call (want rfl) (ent_func cf_51 (argsC (t_agg rfl) args0)) (openR (open_ct _ _ _ _ _ _ hB w1 (hL.fr (buf_stab _) F1 (fun _ _ h => h)) (hT.ext Eb21))) ?_
  rintro _ w2 E1 ⟨pO, rfl, hO⟩
  have F2 := F1.ext E1
  have hz1 := E1.size
  refine lx_value (want rfl) (mv_tuple rfl) ?_
  refine lx_value (want rfl) (rn_extract rfl rfl) ?_
  refine lx_value (want rfl) (rn_extract rfl rfl) ?_
  refine lx_value (want rfl) (as_pointer rfl) ?_
  refine lx_value (want rfl) (as_int rfl) ?_
  refine lx_nil ?_
  refine wk_seq ?_
  refine wk_region ?_
  refine lx_value (want rfl) (mv_int rfl) ?_
  refine lx_value (want rfl) (as_int rfl) ?_
  refine lx_nil ?_
  refine wk_ret ?_
  refine retR1 Tryd.results24 (.tmp (t_int rfl)) F2 ?_
  exact rfl

end Go.Proofs.YtlfclnkoimfhmaaDoor

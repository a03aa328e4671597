/- What functions of the cube compute: refround. -/
import Derived.Test.YtlfclnkoimfhmaaDoorFacts
import Derived.Test.YtlfclnkoimfhmaaDoorPre
import Derived.Test.YtlfclnkoimfhmaaDoorWalk1
import Derived.Test.YtlfclnkoimfhmaaDoorWalk4
import Derived.Test.YtlfclnkoimfhmaaDoorWalk8
import Derived.Test.YtlfclnkoimfhmaaDoorWalk9
set_option linter.unusedVariables false
set_option linter.unusedSimpArgs false
namespace Go.Proofs.YtlfclnkoimfhmaaDoor
open Go Go.RowKit Go.Mix Go.Eng
set_option maxRecDepth 100000 in
theorem refround_ct (d r : Int) (L : List (List Pk)) (s : Option Addr) (c : Nat) (G : Nat → Prop) (w0 : World) (hL : BufS G w0 s L) :
    CT Tryd.prog 45 [.agg #[.int .i64 d, .int .i64 r, .slice s L.length c]] w0 no (fun v w => RoundQ w0.heap.size d r L v w) := by
  have F0 := Fr.refl no w0
  refine ct_body Tryd.func45 rfl Tryd.ntmps45 (Nat.le_of_ble_eq_true rfl) ?_
  refine wk_seq ?_
  refine wk_region ?_
  refine lx_new (want rfl) (rn_box (t_agg rfl)) ?_
  intro b1 w1 hb1 Eb1 B1 hlb1
  have F1 := F0.ext Eb1
  have hzb1 := Eb1.size
  refine lx_new (want rfl) (rn_alloc ze_24) ?_
  intro b2 w2 hb2 Eb2 B2 hlb2
  have F2 := F1.ext Eb2
  have hzb2 := Eb2.size
  refine lx_value (want rfl) (as_slice rfl) ?_
  refine lx_value (want rfl) (as_int rfl) ?_
  refine lx_nil ?_
  refine wk_seq ?_
  refine wk_seq ?_
  refine wk_region ?_
  refine lx_value (want rfl) (rn_loadBlk ag_24 sz_24 rfl (B1.ext Eb2) rfl rfl) ?_
  refine lx_call (want rfl) (ent_func cf_27 (argsC (t_agg rfl) args0)) (check_ct _ _ _ _ _ _ w2 (hL.fr (buf_stab _) F2 (fun _ _ h => h))) ?_
  rintro _ w3 E1 rfl
  have F3 := F2.ext E1
  have hz1 := E1.size
  refine lx_value (want rfl) (as_int rfl) ?_
  refine lx_nil ?_
  refine wk_seq ?_
  refine wk_region ?_
  refine lx_value (want rfl) (mv_int rfl) ?_
  refine lx_value (want rfl) (rn_neq rfl rfl) ?_
  refine lx_dec (fun h1 => ?_) (fun h1 => ?_)
  ·
    refine lx_nil ?_
    refine wk_cond_t rfl ?_
    refine wk_seq ?_
    refine wk_region ?_
    refine lx_value (want rfl) (rn_build0  (fun w => bd_24  w)) ?_
    refine lx_value (want rfl) (mv_int rfl) ?_
    refine lx_set (want rfl) sz_24 rfl (t_agg rfl) rfl rfl rfl (B2.ext E1) (Nat.le_of_ble_eq_true rfl) ?_
    intro w4 Es1 Bs1
    have F4 := F3.set Es1 (by omega)
    have hzs1 := Es1.size
    refine lx_value (want rfl) (as_slice rfl) ?_
    refine lx_value (want rfl) (as_int rfl) ?_
    refine lx_nil ?_
    refine wk_ret ?_
    refine retR3 Tryd.results45 (.cell rfl (run_loadVar_blk ag_24 sz_24 Bs1 rfl rfl)) (.tmp (t_slice rfl)) (.tmp (t_int rfl)) F4 ?_
    exact round_bad h1
  ·
    obtain ⟨dim, rfl, hV⟩ := chk_zero (Decidable.not_not.1 h1)
    have hd := hV.hd
    have hnL := hV.len
    have h32 := prod_le hd
    refine lx_nil ?_
    refine wk_cond_f rfl ?_
    refine wk_skip ?_
    refine wk_seq ?_
    refine wk_region ?_
    refine lx_value (want rfl) (rn_loadBlk ag_24 sz_24 rfl ((B1.ext Eb2).ext E1) rfl rfl) ?_
    refine lx_call (want rfl) (ent_func cf_23 (argsC (t_agg rfl) args0)) (copy_ct _ _ _ _ _ _ hV.bd w3 (hL.fr (buf_stab _) F3 (fun _ _ h => h))) ?_
    rintro _ w4 E2 ⟨sC, cC, TC, rfl, hTC, hTabC, hgC⟩
    have F5 := F3.ext E2
    have hz2 := E2.size
    have hiC : ∀ k, tb sC TC k → (tb (none : Option Addr) ([] : List (TE Pk)) k ∨ _ ≤ k) := fun k hk => .inr (hgC k hk)
    have tg2 : ∀ k, tb sC TC k → w0.heap.size ≤ k := fun k hk => (hiC k hk).elim ((fun _ h => tb_nil h) k) (fun h => by omega)
    have tn2_1 : ∀ k, tb sC TC k → k ≠ b1 := fun k hk => (hiC k hk).elim ((fun _ h => tb_nil h) k) (fun h => by have := (B1).lt; omega)
    have tn2_2 : ∀ k, tb sC TC k → k ≠ b2 := fun k hk => (hiC k hk).elim ((fun _ h => tb_nil h) k) (fun h => by have := (B2).lt; omega)
    refine lx_new (want rfl) (rn_alloc ze_24) ?_
    intro b3 w5 hb3 Eb3 B3 hlb3
    have F6 := F5.ext Eb3
    have hzb3 := Eb3.size
    have nb1 : ∀ k, tb sC TC k → k ≠ b3 := fun k hk => by have := (hTabC).lt hk; omega
    refine lx_set (want rfl) sz_24 rfl (t_agg rfl) rfl rfl rfl B3 (Nat.le_of_ble_eq_true rfl) ?_
    intro w6 Es2 Bs2
    have F7 := F6.set Es2 (by omega)
    have hzs2 := Es2.size
    refine lx_value (want rfl) (as_slice rfl) ?_
    refine lx_nil ?_
    refine wk_seq ?_
    refine wk_seq ?_
    refine wk_region ?_
    refine lx_value (want rfl) (as_int rfl) ?_
    refine lx_nil ?_
    refine wk_block ?_
    refine wk_loopA [8, 19, 20, 21, 22, 23, 24, 25, 26, 27, 28, 29, 30, 31, 32, 33, 34, 35, 36, 37, 38] (fun j => no j ∨ w0.heap.size ≤ j) (fun nM ρ w => ∃ (i : Nat) (so1_2 : Option Addr) (co1_2 : Nat) (st1_1 : Option Addr) (ct1_1 : Nat) (TT1_1 : List (TE Pk)), nM = L.length - i ∧ ρ 8 = .int .i64 i ∧ Blk w b1 (cellsOf B1) 24 ∧ Blk w b2 (cellsOf B2) 24 ∧ Blk w b3 [.int .i64 dim, .int .i64 r, .slice st1_1 TT1_1.length ct1_1] 24 ∧ ρ 7 = .slice so1_2 (0) co1_2 ∧ OwnS w 41 3 so1_2 (0) co1_2 (([] : List Value)) ∧ (∀ k, ob so1_2 k → w0.heap.size ≤ k) ∧ (∀ k, ob so1_2 k → k ≠ b1) ∧ (∀ k, ob so1_2 k → k ≠ b2) ∧ (∀ k, ob so1_2 k → k ≠ b3) ∧ Tab w 49 41 3 pkC st1_1 ct1_1 TT1_1 ∧ (∀ k, tb st1_1 TT1_1 k → w0.heap.size ≤ k) ∧ (∀ k, tb st1_1 TT1_1 k → k ≠ b1) ∧ (∀ k, tb st1_1 TT1_1 k → k ≠ b2) ∧ (∀ k, tb st1_1 TT1_1 k → k ≠ b3) ∧ (∀ k, tb st1_1 TT1_1 k → ob so1_2 k → False) ∧ (i ≤ L.length) ∧ (TT1_1.map (·.2.2) = rdA dim r L i)) _ ⟨0, none, 0, sC, cC, TC, rfl, rfl, (((((B1.ext Eb2).ext E1).ext E2).ext Eb3).ne Es2 (by omega)), ((((B2.ext E1).ext E2).ext Eb3).ne Es2 (by omega)), (by first | exact Bs2 | (rw [List.length_set]; exact Bs2)), rfl, (OwnS.nil w6 41 3), (fun _ h => ob_none h), (fun _ h => ob_none h), (fun _ h => ob_none h), (fun _ h => ob_none h), ((hTabC.ext Eb3).fr Es2 (fun k hk h => nb1 k hk h)), tg2, tn2_1, tn2_2, nb1, (fun _ _ h => ob_none h), by omega, hTC⟩ ?_
    rintro n1 ρ1 w7 A1 EL1 ⟨i, so1_2, co1_2, st1_1, ct1_1, TT1_1, rfl, hs1_8, BL1_1, BL1_2, BL1_3, ho1_2, ow1L_2, ge1L_2, ne1L_2_1, ne1L_2_2, ne1L_2_3, tw1L_1, tg1L_1, tn1L_1_1, tn1L_1_2, tn1L_1_3, ts1L_1_2, hi, hT⟩
    have F8 := F7.wide EL1
    have hzL1 := EL1.size
    refine wk_seq ?_
    refine wk_seq ?_
    refine wk_region ?_
    refine lx_value (want rfl) (mv_int hs1_8) ?_
    refine lx_value (want rfl) (rn_fieldAddr fa_24_2 (A1.at 1 rfl rfl)) ?_
    refine lx_value (want rfl) (rn_load1Blk ag_22 rfl BL1_1 rfl) ?_
    refine lx_value (want rfl) (rn_len Tryd.underlying22 rfl) ?_
    refine lx_value (want rfl) (rn_lss rfl rfl) ?_
    refine lx_dec (fun hlt => ?_) (fun hlt => ?_)
    ·
      obtain ⟨l, hl⟩ := getx hlt
      obtain ⟨bx, ox, rfl, _, sx, cx, hcx, hpx⟩ := hL i l hl
      refine lx_nil ?_
      refine wk_cond_t rfl ?_
      refine wk_skip ?_
      refine wk_seq ?_
      refine wk_block ?_
      refine wk_seq ?_
      refine wk_region ?_
      refine lx_value (want rfl) (rn_loadBlk ag_24 sz_24 (A1.at 1 rfl rfl) BL1_1 rfl rfl) ?_
      refine lx_value (want rfl) (mv_int hs1_8) ?_
      refine lx_call (want rfl) (ent_func cf_70 (argsC (t_agg rfl) (argsC (t_int rfl) args0))) (goes_ct dim r L _ _ _ hV i l hl w7 (hL.fr (buf_stab _) F8 (fun _ _ h => h))) ?_
      rintro _ w8 E3 rfl
      have F9 := F8.ext E3
      have hz3 := E3.size
      refine lx_split (fun hgo => ?_) (fun hgo => ?_)
      ·
        obtain ⟨p, q, rfl⟩ := goes_cons hl hgo
        refine lx_nil ?_
        refine wk_cond_t rfl ?_
        have hai : (rdA dim r L i)[i]? = some (p :: q) := by rw [rdA_get dim r L i i (Nat.le_refl _)]; exact hl
        obtain ⟨⟨sE, cE, lE⟩, he, hel⟩ := tab_at hT hai
        dsimp only at hel
        subst hel
        obtain ⟨bT, oT, hs, hcT⟩ := ((tw1L_1.ext E3)).get he
        subst hs
        refine wk_mix 9 (fun _ => .none) (by kernel_rfl) (by kernel_rfl) (fun kS G hk => by cases hk) (fun kS s y G hk => by cases hk) ?_
        simp only [List.take_succ_cons, List.take_zero, List.take_nil, List.drop_succ_cons, List.drop_zero, List.drop_nil]
        refine mx_calm rfl (want rfl) (fun u1 eu1 fu1 => rn_fieldAddr fa_24_2 (A1.at 6 rfl rfl)) ?_
        refine mx_calm rfl (want rfl) (fun u2 eu2 fu2 => rn_load1Blk ag_22 rfl ((BL1_3.ext E3).ext ((ext_drawn _).trans' eu2)) rfl) ?_
        refine mx_calm rfl (want rfl) (fun u3 eu3 fu3 => mv_int hs1_8) ?_
        refine mx_calm rfl (want rfl) (fun u4 eu4 fu4 => rn_fieldAddr fa_24_2 (A1.at 6 rfl rfl)) ?_
        refine mx_calm rfl (want rfl) (fun u5 eu5 fu5 => rn_load1Blk ag_22 rfl ((BL1_3.ext E3).ext ((ext_drawn _).trans' eu5)) rfl) ?_
        refine mx_calm rfl (want rfl) (fun u6 eu6 fu6 => mv_int hs1_8) ?_
        refine mx_calm rfl (want rfl) (fun u7 eu7 fu7 => rn_index i Tryd.underlying22 sz_49 rfl rfl rfl (List.getElem?_eq_some_iff.1 he).1) ?_
        refine mx_calm rfl (want rfl) (fun u8 eu8 fu8 => rn_load1 ag_49 rfl (((ext_drawn _).trans' eu8).cell (fun h => h) hcT)) ?_
        refine mx_calm rfl (want rfl) (fun u9 eu9 fu9 => rn_sliceFrom 1 Tryd.underlying49 sz_41 rfl rfl rfl (by simp)) ?_
        refine mx_nil (fun w9 E4' H1 HS => ?_)
        have E4 := (ext_drawn _).trans' E4'
        have F10 := F9.ext E4
        have hz4 := E4.size
        refine lx_value (want rfl) (rn_index i Tryd.underlying22 sz_49 rfl rfl rfl (List.getElem?_eq_some_iff.1 he).1) ?_
        refine lx_ownset (want rfl) sz_49 rfl (t_slice rfl) rfl rfl rfl (((tw1L_1.ext E3).ext E4)).out (List.getElem?_eq_some_iff.1 he).1 ?_
        intro w10 E5' HO2
        have E5 : Fr (ob (some (⟨bT, oT, none⟩ : Addr))) _ _ := E5'.mono (fun i _ hi => ⟨_, _, by subst hi; rfl⟩)
        have F11 := F10.new E5 (fun k h => tg1L_1 k (.inl h))
        have hz5 := E5.size
        obtain ⟨tw2, ti2⟩ := Tab.set (e' := ((dropAt sE 1 cE 3, cE - 1, q) : TE Pk)) ((tw1L_1.ext E3).ext E4) he (Fr.refl _ _) (((((tw1L_1.ext E3).ext E4)).own _ _ he).drop (k := 1) (by simp)) (fun k h => .inl (ob_drop h)) E5 HO2
        have tg3 : ∀ k, tb (some (⟨bT, oT, none⟩ : Addr)) (TT1_1.set i ((dropAt sE 1 cE 3, cE - 1, q) : TE Pk)) k → w0.heap.size ≤ k := fun k hk => (ti2 k hk).elim (tg1L_1 k) (fun h => by omega)
        have tn3_1 : ∀ k, tb (some (⟨bT, oT, none⟩ : Addr)) (TT1_1.set i ((dropAt sE 1 cE 3, cE - 1, q) : TE Pk)) k → k ≠ b1 := fun k hk => (ti2 k hk).elim (tn1L_1_1 k) (fun h => by have := (BL1_1).lt; omega)
        have tn3_2 : ∀ k, tb (some (⟨bT, oT, none⟩ : Addr)) (TT1_1.set i ((dropAt sE 1 cE 3, cE - 1, q) : TE Pk)) k → k ≠ b2 := fun k hk => (ti2 k hk).elim (tn1L_1_2 k) (fun h => by have := (BL1_2).lt; omega)
        have tn3_3 : ∀ k, tb (some (⟨bT, oT, none⟩ : Addr)) (TT1_1.set i ((dropAt sE 1 cE 3, cE - 1, q) : TE Pk)) k → k ≠ b3 := fun k hk => (ti2 k hk).elim (tn1L_1_3 k) (fun h => by have := (BL1_3).lt; omega)
        have ts3_2 : ∀ k, tb (some (⟨bT, oT, none⟩ : Addr)) (TT1_1.set i ((dropAt sE 1 cE 3, cE - 1, q) : TE Pk)) k → ob so1_2 k → False := fun k hk h2 => (ti2 k hk).elim (fun h => ts1L_1_2 k h h2) (fun h => by have := (ow1L_2).lt h2; omega)
        refine lx_nil ?_
        refine wk_region ?_
        refine lx_value (want rfl) (mv_int hs1_8) ?_
        refine lx_value (want rfl) (rn_add rfl rfl (by omega)) ?_
        refine lx_value (want rfl) (as_int rfl) ?_
        refine lx_nil ?_
        exact ⟨rfl, ((((((((((((((((((((((A1.up rfl _).up rfl _).up rfl _).up rfl _).up rfl _).up rfl _).up rfl _).up rfl _).up rfl _).up rfl _).up rfl _).up rfl _).up rfl _).up rfl _).up rfl _).up rfl _).up rfl _).up rfl _).none _).up rfl _).up rfl _).up rfl _), Fr.between F7 F11 (by omega), _, (by omega), i + 1, so1_2, co1_2, (some (⟨bT, oT, none⟩ : Addr)), ct1_1, (TT1_1.set i ((dropAt sE 1 cE 3, cE - 1, q) : TE Pk)), rfl, rfl, (((BL1_1.ext E3).ext E4).fr E5 (fun h => tn1L_1_1 _ (.inl h) rfl)), (((BL1_2.ext E3).ext E4).fr E5 (fun h => tn1L_1_2 _ (.inl h) rfl)), (by first | exact (((BL1_3.ext E3).ext E4).fr E5 (fun h => tn1L_1_3 _ (.inl h) rfl)) | (rw [List.length_set]; exact (((BL1_3.ext E3).ext E4).fr E5 (fun h => tn1L_1_3 _ (.inl h) rfl)))), ho1_2, (((ow1L_2.ext E3).ext E4).fr E5 (fun k h1 h => ts1L_1_2 k (.inl h) h1)), ge1L_2, ne1L_2_1, ne1L_2_2, ne1L_2_3, tw2, tg3, tn3_1, tn3_2, tn3_3, ts3_2, by omega, (by first | (rw [rdA_step_t hgo hl]; exact set_map hT _ _) | (rw [rdA_step_f hgo]; exact hT))⟩
      ·
        refine lx_nil ?_
        refine wk_cond_f rfl ?_
        refine wk_skip ?_
        refine wk_region ?_
        refine lx_value (want rfl) (mv_int hs1_8) ?_
        refine lx_value (want rfl) (rn_add rfl rfl (by omega)) ?_
        refine lx_value (want rfl) (as_int rfl) ?_
        refine lx_nil ?_
        exact ⟨rfl, (((((((((((A1.up rfl _).up rfl _).up rfl _).up rfl _).up rfl _).up rfl _).up rfl _).up rfl _).up rfl _).up rfl _).up rfl _), Fr.between F7 F9 (by omega), _, (by omega), i + 1, so1_2, co1_2, st1_1, ct1_1, TT1_1, rfl, rfl, (BL1_1.ext E3), (BL1_2.ext E3), (by first | exact (BL1_3.ext E3) | (rw [List.length_set]; exact (BL1_3.ext E3))), ho1_2, (ow1L_2.ext E3), ge1L_2, ne1L_2_1, ne1L_2_2, ne1L_2_3, (tw1L_1.ext E3), tg1L_1, tn1L_1_1, tn1L_1_2, tn1L_1_3, ts1L_1_2, by omega, (by first | (rw [rdA_step_t hgo hl]; exact set_map hT _ _) | (rw [rdA_step_f hgo]; exact hT))⟩
    ·
      refine lx_nil ?_
      refine wk_cond_f rfl ?_
      refine wk_exit ?_
      refine wk_seq ?_
      refine wk_seq ?_
      refine wk_region ?_
      refine lx_value (want rfl) (as_int rfl) ?_
      refine lx_nil ?_
      refine wk_block ?_
      refine wk_loopA [7, 9, 10, 39, 40, 41, 42, 43, 44, 45, 46, 47, 48, 49, 50, 51, 52, 53, 54, 55, 56, 57, 58, 59, 60, 61, 62, 63, 64, 65, 66, 67, 68, 69, 70, 71, 72, 73, 74, 75, 76, 77, 78, 79, 80, 81, 82] (fun j => no j ∨ w0.heap.size ≤ j) (fun nM ρ w => ∃ (i : Nat) (so2_2 : Option Addr) (co2_2 : Nat) (st2_1 : Option Addr) (ct2_1 : Nat) (TT2_1 : List (TE Pk)), nM = L.length - i ∧ ρ 9 = .int .i64 i ∧ Blk w b1 (cellsOf BL1_1) 24 ∧ Blk w b2 (cellsOf BL1_2) 24 ∧ Blk w b3 [.int .i64 dim, .int .i64 r, .slice st2_1 TT2_1.length ct2_1] 24 ∧ ρ 7 = .slice so2_2 ((rdB dim r L i).2.length) co2_2 ∧ OwnS w 41 3 so2_2 ((rdB dim r L i).2.length) co2_2 ((rdB dim r L i).2.flatMap pkC) ∧ (∀ k, ob so2_2 k → w0.heap.size ≤ k) ∧ (∀ k, ob so2_2 k → k ≠ b1) ∧ (∀ k, ob so2_2 k → k ≠ b2) ∧ (∀ k, ob so2_2 k → k ≠ b3) ∧ Tab w 49 41 3 pkC st2_1 ct2_1 TT2_1 ∧ (∀ k, tb st2_1 TT2_1 k → w0.heap.size ≤ k) ∧ (∀ k, tb st2_1 TT2_1 k → k ≠ b1) ∧ (∀ k, tb st2_1 TT2_1 k → k ≠ b2) ∧ (∀ k, tb st2_1 TT2_1 k → k ≠ b3) ∧ (∀ k, tb st2_1 TT2_1 k → ob so2_2 k → False) ∧ (i ≤ L.length) ∧ (TT2_1.map (·.2.2) = (rdB dim r L i).1)) _ ⟨0, so1_2, co1_2, st1_1, ct1_1, TT1_1, rfl, rfl, BL1_1, BL1_2, (by first | exact BL1_3 | (rw [List.length_set]; exact BL1_3)), ho1_2, ow1L_2, ge1L_2, ne1L_2_1, ne1L_2_2, ne1L_2_3, tw1L_1, tg1L_1, tn1L_1_1, tn1L_1_2, tn1L_1_3, ts1L_1_2, by omega, (by have hE : i = L.length := (by omega); subst hE; exact hT)⟩ ?_
      rintro n2 ρ2 w8 A2 EL2 ⟨i, so2_2, co2_2, st2_1, ct2_1, TT2_1, rfl, hs2_9, BL2_1, BL2_2, BL2_3, ho2_2, ow2L_2, ge2L_2, ne2L_2_1, ne2L_2_2, ne2L_2_3, tw2L_1, tg2L_1, tn2L_1_1, tn2L_1_2, tn2L_1_3, ts2L_1_2, hi2, hT⟩
      have F12 := F8.wide EL2
      have hzL2 := EL2.size
      have hr8 := (rdB_8 hV i).2
      refine wk_seq ?_
      refine wk_seq ?_
      refine wk_region ?_
      refine lx_value (want rfl) (mv_int hs2_9) ?_
      refine lx_value (want rfl) (rn_fieldAddr fa_24_2 (A2.at 1 rfl (A1.at 1 rfl rfl))) ?_
      refine lx_value (want rfl) (rn_load1Blk ag_22 rfl BL2_1 rfl) ?_
      refine lx_value (want rfl) (rn_len Tryd.underlying22 rfl) ?_
      refine lx_value (want rfl) (rn_lss rfl rfl) ?_
      refine lx_dec (fun hlt => ?_) (fun hlt => ?_)
      ·
        obtain ⟨l, hl⟩ := getx hlt
        obtain ⟨bx, ox, rfl, _, sx, cx, hcx, hpx⟩ := hL i l hl
        refine lx_nil ?_
        refine wk_cond_t rfl ?_
        refine wk_skip ?_
        refine wk_seq ?_
        refine wk_block ?_
        refine wk_seq ?_
        refine wk_seq ?_
        refine wk_region ?_
        refine lx_value (want rfl) (rn_loadBlk ag_24 sz_24 (A2.at 1 rfl (A1.at 1 rfl rfl)) BL2_1 rfl rfl) ?_
        refine lx_value (want rfl) (mv_int hs2_9) ?_
        refine lx_call (want rfl) (ent_func cf_70 (argsC (t_agg rfl) (argsC (t_int rfl) args0))) (goes_ct dim r L _ _ _ hV i l hl w8 (hL.fr (buf_stab _) F12 (fun _ _ h => h))) ?_
        rintro _ w9 E6 rfl
        have F13 := F12.ext E6
        have hz6 := E6.size
        refine lx_split (fun hgo => ?_) (fun hgo => ?_)
        ·
          obtain ⟨⟨p1, p2, p3⟩, q, rfl⟩ := goes_cons hl hgo
          obtain ⟨by_, oy, rfl, _, hcy⟩ := hpx 0 _ rfl
          refine lx_value (want rfl) (rn_not rfl) ?_
          refine lx_nil ?_
          refine wk_cond_f rfl ?_
          refine wk_skip ?_
          refine wk_seq ?_
          refine wk_region ?_
          refine lx_value (want rfl) (rn_loadBlk ag_24 sz_24 (A2.at 1 rfl (A1.at 1 rfl rfl)) (BL2_1.ext E6) rfl rfl) ?_
          refine lx_value (want rfl) (mv_int hs2_9) ?_
          refine lx_call (want rfl) (ent_func cf_71 (argsC (t_agg rfl) (argsC (t_int rfl) args0))) (target_ct dim r L _ _ _ hV i _ q hl w9 (hL.fr (buf_stab _) F13 (fun _ _ h => h))) ?_
          rintro _ w10 E7 rfl
          have F14 := F13.ext E7
          have hz7 := E7.size
          refine lx_value (want rfl) (as_int rfl) ?_
          refine lx_nil ?_
          refine wk_seq ?_
          refine wk_region ?_
          refine lx_value (want rfl) (mv_int rfl) ?_
          refine lx_value (want rfl) (rn_geq rfl rfl) ?_
          refine lx_dec (fun hge => ?_) (fun hge => ?_)
          ·
            obtain ⟨m, hm, hmL⟩ := tgt_lt hV hl (by omega)
            obtain ⟨lm, hlm⟩ : ∃ l, (rdB dim r L i).1[m]? = some l := ⟨_, List.getElem?_eq_getElem (by rw [rdB_len]; exact hmL)⟩
            have hlm8 := (rdB_8 hV i).1 lm (List.mem_of_getElem? hlm)
            refine lx_nil ?_
            refine wk_cond_t rfl ?_
            obtain ⟨⟨sE, cE, lE⟩, he, hel⟩ := tab_at hT hlm
            dsimp only at hel
            subst hel
            obtain ⟨bT, oT, hs, hcT⟩ := (((tw2L_1.ext E6).ext E7)).get he
            subst hs
            have hTo := ((tw2L_1.ext E6).ext E7)
            have hOw := hTo.own _ _ he
            have hSl : ∀ k, (ob sE) k → k < w10.heap.size := fun k h => (((tw2L_1.ext E6).ext E7)).lt (.inr ⟨_, _, he, h⟩)
            refine wk_mixA 17 16 (ob sE) (fun kS => match kS with | 15 => .any (fun I v w => ∃ b, v = .slice (some ⟨b, 0, none⟩) 1 1 ∧ w10.heap.size ≤ b ∧ (I.1 ≤ b ∧ b < I.2) ∧ Blk w b [.int .i64 p1, .int .i64 p2, .int .i64 p3] 41) | 16 => .any (fun I v w => ∃ s c, v = .slice s (lm ++ [(((p1 : Int), (p2 : Int), (p3 : Int)) : Pk)]).length c ∧ OwnS w 41 3 s (lm ++ [(((p1 : Int), (p2 : Int), (p3 : Int)) : Pk)]).length c ((lm ++ [(((p1 : Int), (p2 : Int), (p3 : Int)) : Pk)]).flatMap pkC) ∧ ∀ k, ob s k → (ob sE k ∨ w10.heap.size ≤ k)) | _ => .none) (by kernel_rfl) (by kernel_rfl) (by intro kS G hk; (try dsimp only at hk); (split at hk) <;> first | (cases hk; done) | (injection hk with hk; subst hk; exact ⟨by intro j hkj I v w w' hR hG; first | exact hG | (obtain ⟨b, h1, h2, hI, h3⟩ := hG; exact ⟨b, h1, h2, hI, h3.fr (mS hR) (fun hs => by have := hSl _ hs; omega)⟩) | (obtain ⟨s, c, h1, h2, h3⟩ := hG; exact ⟨s, c, h1, h2.ext (mT hkj hR), h3⟩), fun ⟨_, _, _, _, hs⟩ => by (try dsimp only at hs); split at hs <;> cases hs⟩)) (by intro kS s y G hk; (try dsimp only at hk); split at hk <;> cases hk) ?_
            simp only [List.take_succ_cons, List.take_zero, List.take_nil, List.drop_succ_cons, List.drop_zero, List.drop_nil]
            refine mx_calm rfl (want rfl) (fun u10 eu10 fu10 => rn_fieldAddr fa_24_2 (A2.at 6 rfl (A1.at 6 rfl rfl))) ?_
            refine mx_calm rfl (want rfl) (fun u11 eu11 fu11 => rn_load1Blk ag_22 rfl (((BL2_3.ext E6).ext E7).fr (mD (by decide) eu11) (fun h => tn2L_1_3 _ (.inr ⟨_, _, he, h⟩) rfl)) rfl) ?_
            refine mx_calm rfl (want rfl) (fun u12 eu12 fu12 => mv_int rfl) ?_
            refine mx_calm rfl (want rfl) (fun u13 eu13 fu13 => rn_fieldAddr fa_24_2 (A2.at 6 rfl (A1.at 6 rfl rfl))) ?_
            refine mx_calm rfl (want rfl) (fun u14 eu14 fu14 => rn_load1Blk ag_22 rfl (((BL2_3.ext E6).ext E7).fr (mD (by decide) eu14) (fun h => tn2L_1_3 _ (.inr ⟨_, _, he, h⟩) rfl)) rfl) ?_
            refine mx_calm rfl (want rfl) (fun u15 eu15 fu15 => mv_int rfl) ?_
            refine mx_calm rfl (want rfl) (fun u16 eu16 fu16 => rn_index m Tryd.underlying22 sz_49 rfl rfl hm (List.getElem?_eq_some_iff.1 he).1) ?_
            refine mx_calm rfl (want rfl) (fun u17 eu17 fu17 => rn_load1 ag_49 rfl ((mD (by decide) eu17).cell (fun h => hTo.sep _ _ he _ h ⟨_, _, rfl⟩) hcT)) ?_
            refine mx_calm rfl (want rfl) (fun u18 eu18 fu18 => rn_fieldAddr fa_24_2 (A2.at 1 rfl (A1.at 1 rfl rfl))) ?_
            refine mx_calm rfl (want rfl) (fun u19 eu19 fu19 => rn_load1Blk ag_22 rfl (((BL2_1.ext E6).ext E7).fr (mD (by decide) eu19) (fun h => tn2L_1_1 _ (.inr ⟨_, _, he, h⟩) rfl)) rfl) ?_
            refine mx_calm rfl (want rfl) (fun u20 eu20 fu20 => mv_int hs2_9) ?_
            refine mx_calm rfl (want rfl) (fun u21 eu21 fu21 => rn_index i Tryd.underlying22 sz_49 rfl rfl rfl (by omega)) ?_
            refine mx_calm rfl (want rfl) (fun u22 eu22 fu22 => rn_load1 ag_49 rfl ((F14.new (mD (by decide) eu22) (fun k h => tg2L_1 k (.inr ⟨_, _, he, h⟩))).cell (fun h => h) hcx)) ?_
            refine mx_calm rfl (want rfl) (fun u23 eu23 fu23 => rn_index 0 Tryd.underlying49 sz_41 rfl rfl rfl (by simp)) ?_
            refine mx_calm rfl (want rfl) (fun u24 eu24 fu24 => rn_load3 ag_41 sz_41 rfl ((F14.new (mD (by decide) eu24) (fun k h => tg2L_1 k (.inr ⟨_, _, he, h⟩))).cell (fun h => h) (hcy 0 _ rfl)) ((F14.new (mD (by decide) eu24) (fun k h => tg2L_1 k (.inr ⟨_, _, he, h⟩))).cell (fun h => h) (hcy 1 _ rfl)) ((F14.new (mD (by decide) eu24) (fun k h => tg2L_1 k (.inr ⟨_, _, he, h⟩))).cell (fun h => h) (hcy 2 _ rfl))) ?_
            refine mx_any rfl rfl (want rfl) (fun u25 eu25 fu25 => (do_newS2 (rn_bslice (xs := [.tmp 69]) Tryd.underlying49 sz_41 ze_41 rfl (argsC (t_agg rfl) args0) (CL.cons rfl rfl CL.nil) rfl (Nat.le_of_ble_eq_true rfl)) (show _ ≤ _ from ((mD (by decide) eu25)).size)).mono (fun v w' h => ⟨(mE (by decide) h.1), h.2⟩)) (fun I70 v70 => ?_)
            refine mx_any rfl rfl (want rfl) (fun u26 eu26 fu26 => by obtain ⟨bS, rfl, hbS, _, hBS⟩ := fu26 70 _ rfl (show (70 : Nat) ∈ _ from by decide); exact do_append 24 Tryd.underlying49 ti_41 (by decide) rfl (by decide) rfl rfl (hOw.ext (mC eu26)) (Src.blk hBS rfl rfl) (show lm.length + 1 ≤ 1073741824 by omega) (fun sA cA wA AP => ⟨(mF AP.fr), ⟨sA, cA, by simp, by have h := AP.own; rw [List.length_append, List.flatMap_append]; exact h, fun k hk => (AP.blk k hk).elim .inl (fun h => .inr (Nat.le_trans (mC eu26).size h))⟩⟩)) (fun I71 v71 => ?_)
            refine mx_nil (fun w11 E8' H2 HS => ?_)
            have E8 := mG E8'
            have F15 := F14.new E8 (fun k h => tg2L_1 k (.inr ⟨_, _, he, h⟩))
            have hz8 := E8.size
            have hI71 := (HS.1 71 _ rfl).2
            have hI70 := (HS.1 70 _ rfl).2
            have hX71_70 := HS.2 71 _ 70 _ rfl rfl (show (71 : Nat) ≠ 70 from by decide)
            simp only at hI71
            simp only at hI70
            simp only at hX71_70
            have g71 := H2 71 _ rfl
            obtain ⟨sq3, cq3, rfl, hO3, hI3⟩ := g71
            have g70 := H2 70 _ rfl
            refine lx_value (want rfl) (rn_index m Tryd.underlying22 sz_49 rfl rfl hm (List.getElem?_eq_some_iff.1 he).1) ?_
            refine lx_ownset (want rfl) sz_49 rfl (t_slice rfl) rfl rfl rfl (hTo.out.fr E8 (fun k hk hs => hTo.sep _ _ he k hs hk)) (List.getElem?_eq_some_iff.1 he).1 ?_
            intro w12 E9' HO4
            have E9 : Fr (ob (some (⟨bT, oT, none⟩ : Addr))) _ _ := E9'.mono (fun i _ hi => ⟨_, _, by subst hi; rfl⟩)
            have F16 := F15.new E9 (fun k h => tg2L_1 k (.inl h))
            have hz9 := E9.size
            obtain ⟨tw4, ti4⟩ := Tab.set (e' := (sq3, cq3, lm ++ [(((p1 : Int), (p2 : Int), (p3 : Int)) : Pk)])) hTo he E8 hO3 hI3 E9 HO4
            have tg4 : ∀ k, tb (some (⟨bT, oT, none⟩ : Addr)) (TT2_1.set m (sq3, cq3, lm ++ [(((p1 : Int), (p2 : Int), (p3 : Int)) : Pk)])) k → w0.heap.size ≤ k := fun k hk => (ti4 k hk).elim (tg2L_1 k) (fun h => by omega)
            have tn4_1 : ∀ k, tb (some (⟨bT, oT, none⟩ : Addr)) (TT2_1.set m (sq3, cq3, lm ++ [(((p1 : Int), (p2 : Int), (p3 : Int)) : Pk)])) k → k ≠ b1 := fun k hk => (ti4 k hk).elim (tn2L_1_1 k) (fun h => by have := (BL2_1).lt; omega)
            have tn4_2 : ∀ k, tb (some (⟨bT, oT, none⟩ : Addr)) (TT2_1.set m (sq3, cq3, lm ++ [(((p1 : Int), (p2 : Int), (p3 : Int)) : Pk)])) k → k ≠ b2 := fun k hk => (ti4 k hk).elim (tn2L_1_2 k) (fun h => by have := (BL2_2).lt; omega)
            have tn4_3 : ∀ k, tb (some (⟨bT, oT, none⟩ : Addr)) (TT2_1.set m (sq3, cq3, lm ++ [(((p1 : Int), (p2 : Int), (p3 : Int)) : Pk)])) k → k ≠ b3 := fun k hk => (ti4 k hk).elim (tn2L_1_3 k) (fun h => by have := (BL2_3).lt; omega)
            have ts4_2 : ∀ k, tb (some (⟨bT, oT, none⟩ : Addr)) (TT2_1.set m (sq3, cq3, lm ++ [(((p1 : Int), (p2 : Int), (p3 : Int)) : Pk)])) k → ob so2_2 k → False := fun k hk h2 => (ti4 k hk).elim (fun h => ts2L_1_2 k h h2) (fun h => by have := (ow2L_2).lt h2; omega)
            refine lx_nil ?_
            refine wk_region ?_
            refine lx_value (want rfl) (mv_int hs2_9) ?_
            refine lx_value (want rfl) (rn_add rfl rfl (by omega)) ?_
            refine lx_value (want rfl) (as_int rfl) ?_
            refine lx_nil ?_
            exact ⟨rfl, (((((((((((((((((((((((((((((((((((((A2.up rfl _).up rfl _).up rfl _).up rfl _).up rfl _).up rfl _).up rfl _).up rfl _).up rfl _).up rfl _).up rfl _).up rfl _).up rfl _).up rfl _).up rfl _).up rfl _).up rfl _).up rfl _).up rfl _).up rfl _).up rfl _).up rfl _).up rfl _).up rfl _).up rfl _).up rfl _).up rfl _).up rfl _).up rfl _).up rfl _).up rfl _).up rfl _).up rfl _).none _).up rfl _).up rfl _).up rfl _), Fr.between F8 F16 (by omega), _, (by omega), i + 1, so2_2, co2_2, (some (⟨bT, oT, none⟩ : Addr)), ct2_1, (TT2_1.set m (sq3, cq3, lm ++ [(((p1 : Int), (p2 : Int), (p3 : Int)) : Pk)])), rfl, rfl, ((((BL2_1.ext E6).ext E7).fr E8 (fun h => tn2L_1_1 _ (.inr ⟨_, _, he, h⟩) rfl)).fr E9 (fun h => tn2L_1_1 _ (.inl h) rfl)), ((((BL2_2.ext E6).ext E7).fr E8 (fun h => tn2L_1_2 _ (.inr ⟨_, _, he, h⟩) rfl)).fr E9 (fun h => tn2L_1_2 _ (.inl h) rfl)), (by first | exact ((((BL2_3.ext E6).ext E7).fr E8 (fun h => tn2L_1_3 _ (.inr ⟨_, _, he, h⟩) rfl)).fr E9 (fun h => tn2L_1_3 _ (.inl h) rfl)) | (rw [List.length_set]; exact ((((BL2_3.ext E6).ext E7).fr E8 (fun h => tn2L_1_3 _ (.inr ⟨_, _, he, h⟩) rfl)).fr E9 (fun h => tn2L_1_3 _ (.inl h) rfl)))), (by first | (rw [rdB_step_f hgo]; exact ho2_2) | (rw [rdB_step_o hgo hl (by omega), List.length_append]; exact ho2_2) | (rw [rdB_step_t hgo hl (by omega) hm hlm]; exact ho2_2)), (by first | (rw [rdB_step_f hgo]; exact ((((ow2L_2.ext E6).ext E7).fr E8 (fun k h1 h => ts2L_1_2 k (.inr ⟨_, _, he, h⟩) h1)).fr E9 (fun k h1 h => ts2L_1_2 k (.inl h) h1))) | (rw [rdB_step_o hgo hl (by omega), List.length_append]; exact own_snocP ((((ow2L_2.ext E6).ext E7).fr E8 (fun k h1 h => ts2L_1_2 k (.inr ⟨_, _, he, h⟩) h1)).fr E9 (fun k h1 h => ts2L_1_2 k (.inl h) h1))) | (rw [rdB_step_t hgo hl (by omega) hm hlm]; exact ((((ow2L_2.ext E6).ext E7).fr E8 (fun k h1 h => ts2L_1_2 k (.inr ⟨_, _, he, h⟩) h1)).fr E9 (fun k h1 h => ts2L_1_2 k (.inl h) h1)))), ge2L_2, ne2L_2_1, ne2L_2_2, ne2L_2_3, tw4, tg4, tn4_1, tn4_2, tn4_3, ts4_2, by omega, (by first | (rw [rdB_step_f hgo]; exact hT) | (rw [rdB_step_o hgo hl (by omega)]; exact hT) | (rw [rdB_step_t hgo hl (by omega) hm hlm]; exact set_map hT _ _))⟩
          ·
            refine lx_nil ?_
            refine wk_cond_f rfl ?_
            refine wk_region ?_
            refine lx_value (want rfl) (mv_slice ho2_2) ?_
            refine lx_value (want rfl) (rn_fieldAddr fa_24_2 (A2.at 1 rfl (A1.at 1 rfl rfl))) ?_
            refine lx_value (want rfl) (rn_load1Blk ag_22 rfl ((BL2_1.ext E6).ext E7) rfl) ?_
            refine lx_value (want rfl) (mv_int hs2_9) ?_
            refine lx_value (want rfl) (rn_index i Tryd.underlying22 sz_49 rfl rfl rfl (by omega)) ?_
            refine lx_value (want rfl) (rn_load1 ag_49 rfl (F14.cell (fun h => h) hcx)) ?_
            refine lx_value (want rfl) (rn_index 0 Tryd.underlying49 sz_41 rfl rfl rfl (by simp)) ?_
            refine lx_value (want rfl) (rn_load3 ag_41 sz_41 rfl (F14.cell (fun h => h) (hcy 0 _ rfl)) (F14.cell (fun h => h) (hcy 1 _ rfl)) (F14.cell (fun h => h) (hcy 2 _ rfl))) ?_
            refine lx_newS (want rfl) (rn_bslice (xs := [.tmp 80]) Tryd.underlying49 sz_41 ze_41 rfl (argsC (t_agg rfl) args0) (CL.cons rfl rfl CL.nil) rfl (Nat.le_of_ble_eq_true rfl)) ?_
            intro b4 w11 hb4 Eb4 B4 hlb4
            have F17 := F14.ext Eb4
            have hzb4 := Eb4.size
            have nb2 : ∀ k, ob so2_2 k → k ≠ b4 := fun k hk => by have := (ow2L_2).lt hk; omega
            have nb3 : ∀ k, tb st2_1 TT2_1 k → k ≠ b4 := fun k hk => by have := (tw2L_1).lt hk; omega
            refine lx_append 24 (want rfl) Tryd.underlying49 ti_41 (by decide) rfl (by decide) rfl rfl (((ow2L_2.ext E6).ext E7).ext Eb4) (Src.blk B4 rfl rfl) (by omega) ?_
            intro sq5 cq5 w12 AP5
            have EA5 := AP5.fr
            have ow5 := AP5.own
            have ge5 : ∀ k, ob sq5 k → w0.heap.size ≤ k := fun k hk => (AP5.blk k hk).elim (ge2L_2 k) (fun h => Nat.le_trans F17.size h)
            have ne5_1 : ∀ k, ob sq5 k → k ≠ b1 := fun k hk => (AP5.blk k hk).elim (ne2L_2_1 k) (fun h => by have := ((((BL2_1.ext E6).ext E7).ext Eb4)).lt; omega)
            have ne5_2 : ∀ k, ob sq5 k → k ≠ b2 := fun k hk => (AP5.blk k hk).elim (ne2L_2_2 k) (fun h => by have := ((((BL2_2.ext E6).ext E7).ext Eb4)).lt; omega)
            have ne5_3 : ∀ k, ob sq5 k → k ≠ b3 := fun k hk => (AP5.blk k hk).elim (ne2L_2_3 k) (fun h => by have := ((((BL2_3.ext E6).ext E7).ext Eb4)).lt; omega)
            have ne5_4 : ∀ k, ob sq5 k → k ≠ b4 := fun k hk => (AP5.blk k hk).elim (nb2 k) (fun h => by have := (B4).lt; omega)
            have F18 := F17.new EA5 ge2L_2
            have hzA5 := EA5.size
            have BA5_1 := (((BL2_1.ext E6).ext E7).ext Eb4).fr EA5 (fun h => ne2L_2_1 _ h rfl)
            have BA5_2 := (((BL2_2.ext E6).ext E7).ext Eb4).fr EA5 (fun h => ne2L_2_2 _ h rfl)
            have BA5_3 := (((BL2_3.ext E6).ext E7).ext Eb4).fr EA5 (fun h => ne2L_2_3 _ h rfl)
            have BA5_4 := B4.fr EA5 (fun h => nb2 _ h rfl)
            have sa5_1 : ∀ k, tb st2_1 TT2_1 k → ob sq5 k → False := fun k hk h2 => (AP5.blk k h2).elim (fun h => ts2L_1_2 k hk h) (fun h => by have := ((((tw2L_1.ext E6).ext E7).ext Eb4)).lt hk; omega)
            refine lx_value (want rfl) (as_slice rfl) ?_
            refine lx_nil ?_
            refine wk_region ?_
            refine lx_value (want rfl) (mv_int hs2_9) ?_
            refine lx_value (want rfl) (rn_add rfl rfl (by omega)) ?_
            refine lx_value (want rfl) (as_int rfl) ?_
            refine lx_nil ?_
            exact ⟨rfl, (((((((((((((((((((((((((((((A2.up rfl _).up rfl _).up rfl _).up rfl _).up rfl _).up rfl _).up rfl _).up rfl _).up rfl _).up rfl _).up rfl _).up rfl _).up rfl _).up rfl _).up rfl _).up rfl _).up rfl _).up rfl _).up rfl _).up rfl _).up rfl _).up rfl _).up rfl _).up rfl _).up rfl _).up rfl _).up rfl _).up rfl _).up rfl _), Fr.between F8 F18 (by omega), _, (by omega), i + 1, sq5, cq5, st2_1, ct2_1, TT2_1, rfl, rfl, BA5_1, BA5_2, (by first | exact BA5_3 | (rw [List.length_set]; exact BA5_3)), (by first | (rw [rdB_step_f hgo]; exact rfl) | (rw [rdB_step_o hgo hl (by omega), List.length_append]; exact rfl) | (rw [rdB_step_t hgo hl (by omega) hm hlm]; exact rfl)), (by first | (rw [rdB_step_f hgo]; exact ow5) | (rw [rdB_step_o hgo hl (by omega), List.length_append]; exact own_snocP ow5) | (rw [rdB_step_t hgo hl (by omega) hm hlm]; exact ow5)), ge5, ne5_1, ne5_2, ne5_3, ((((tw2L_1.ext E6).ext E7).ext Eb4).fr EA5 (fun k hk h => ts2L_1_2 k hk h)), tg2L_1, tn2L_1_1, tn2L_1_2, tn2L_1_3, sa5_1, by omega, (by first | (rw [rdB_step_f hgo]; exact hT) | (rw [rdB_step_o hgo hl (by omega)]; exact hT) | (rw [rdB_step_t hgo hl (by omega) hm hlm]; exact set_map hT _ _))⟩
        ·
          refine lx_value (want rfl) (rn_not rfl) ?_
          refine lx_nil ?_
          refine wk_cond_t rfl ?_
          refine wk_exit ?_
          refine wk_region ?_
          refine lx_value (want rfl) (mv_int hs2_9) ?_
          refine lx_value (want rfl) (rn_add rfl rfl (by omega)) ?_
          refine lx_value (want rfl) (as_int rfl) ?_
          refine lx_nil ?_
          exact ⟨rfl, ((((((((((((A2.up rfl _).up rfl _).up rfl _).up rfl _).up rfl _).up rfl _).up rfl _).up rfl _).up rfl _).up rfl _).up rfl _).up rfl _), Fr.between F8 F13 (by omega), _, (by omega), i + 1, so2_2, co2_2, st2_1, ct2_1, TT2_1, rfl, rfl, (BL2_1.ext E6), (BL2_2.ext E6), (by first | exact (BL2_3.ext E6) | (rw [List.length_set]; exact (BL2_3.ext E6))), (by first | (rw [rdB_step_f hgo]; exact ho2_2) | (rw [rdB_step_o hgo hl (by omega), List.length_append]; exact ho2_2) | (rw [rdB_step_t hgo hl (by omega) hm hlm]; exact ho2_2)), (by first | (rw [rdB_step_f hgo]; exact (ow2L_2.ext E6)) | (rw [rdB_step_o hgo hl (by omega), List.length_append]; exact own_snocP (ow2L_2.ext E6)) | (rw [rdB_step_t hgo hl (by omega) hm hlm]; exact (ow2L_2.ext E6))), ge2L_2, ne2L_2_1, ne2L_2_2, ne2L_2_3, (tw2L_1.ext E6), tg2L_1, tn2L_1_1, tn2L_1_2, tn2L_1_3, ts2L_1_2, by omega, (by first | (rw [rdB_step_f hgo]; exact hT) | (rw [rdB_step_o hgo hl (by omega)]; exact hT) | (rw [rdB_step_t hgo hl (by omega) hm hlm]; exact set_map hT _ _))⟩
      ·
        refine lx_nil ?_
        refine wk_cond_f rfl ?_
        refine wk_exit ?_
        refine wk_seq ?_
        refine wk_region ?_
        refine lx_value (want rfl) (rn_loadBlk ag_24 sz_24 (A2.at 6 rfl (A1.at 6 rfl rfl)) BL2_3 rfl rfl) ?_
        refine lx_value (want rfl) (mv_slice ho2_2) ?_
        refine lx_set (want rfl) sz_24 (A2.at 2 rfl (A1.at 2 rfl rfl)) (t_agg rfl) rfl rfl rfl BL2_2 (Nat.le_of_ble_eq_true rfl) ?_
        intro w9 Es3 Bs3
        have F19 := F12.set Es3 (by omega)
        have hzs3 := Es3.size
        refine lx_value (want rfl) (as_slice rfl) ?_
        refine lx_value (want rfl) (as_int rfl) ?_
        refine lx_nil ?_
        refine wk_ret ?_
        refine retR3 Tryd.results45 (.cell (A2.at 2 rfl (A1.at 2 rfl rfl)) (run_loadVar_blk ag_24 sz_24 Bs3 rfl rfl)) (.tmp (t_slice rfl)) (.tmp (t_int rfl)) F19 ?_
        exact round_ok hV hi2 hlt (tab_cube (tw2L_1.fr Es3 (fun k hk h => tn2L_1_2 k hk h)) hT tg2L_1 (by simp)) (own_pk (ow2L_2.ne Es3 (fun h => ne2L_2_2 _ h rfl)) rfl ge2L_2)

end Go.Proofs.YtlfclnkoimfhmaaDoor

/- What functions compute: first, pispic. -/
import Derived.Test.YtnhgfmbmfjmonaaGreatDoorMoreFacts
import Derived.Test.YtnhgfmbmfjmonaaGreatDoorMorePre
import Derived.Test.YtnhgfmbmfjmonaaGreatDoorMoreWalk10
import Derived.Test.YtnhgfmbmfjmonaaGreatDoorMoreWalk14
import Derived.Test.YtnhgfmbmfjmonaaGreatDoorMoreWalk2
import Derived.Test.YtnhgfmbmfjmonaaGreatDoorMoreWalk6
set_option maxRecDepth 100000
set_option linter.unusedVariables false
set_option linter.unusedSimpArgs false
namespace Go.Proofs.YtnhgfmbmfjmonaaGreatDoor
open Go Go.RowKit Go.Mix Go.Eng
set_option maxHeartbeats 2000000 in
theorem first_ct (w0 : World) :
  CT Tryz.prog 45 [] w0 no (fun v w => ∃ s c, v = .tuple #[.agg #[.slice s 4 c], .bool true] ∧ MemS (Iv w0.heap.size w.heap.size) w s (memF [])) := by
 have F0 := Fr.refl no w0
 refine ct_body Tryz.func45 rfl Tryz.ntmps45 (Nat.le_of_ble_eq_true rfl) ?_
 refine wk_seq ?_
 refine wk_region ?_
 refine lx_new (want rfl) (rn_alloc ze_24) ?_
 intro b1 w1 hb1 Eb1 B1 hlb1
 have F1 := F0.ext Eb1
 have hzb1 := Eb1.size
 refine lx_value (want rfl) (as_bool rfl) ?_
 refine lx_nil ?_
 refine wk_seq ?_
 refine wk_region ?_
 refine lx_value (want rfl) (rn_build0  (fun w => bd_24  w)) ?_
 refine lx_call (want rfl) (ent_func cf_92 args0) (sizes_ct w1) ?_
 rintro _ w2 E1 ⟨bN, rfl, hbN, hBN⟩
 have F2 := F1.ext E1
 have hz1 := E1.size
 have hlbN := (hBN).lt
 refine lx_new (want rfl) (rn_alloc ze_24) ?_
 intro b2 w3 hb2 Eb2 B2 hlb2
 have F3 := F2.ext Eb2
 have hzb2 := Eb2.size
 refine lx_set (want rfl) sz_24 rfl (t_agg rfl) rfl rfl rfl B2 (Nat.le_of_ble_eq_true rfl) ?_
 intro w4 Es1 Bs1
 have F4 := F3.set Es1 (by omega)
 have hzs1 := Es1.size
 refine lx_value (want rfl) (as_slice rfl) ?_
 have hM0 : MZ (fun _ => False) w4 none (mI 0) := ⟨memS_nil _ _, fun k h => h.elim⟩
 have hi0 := fun (k : Nat) (hk : zz zn (fun _ => False) k) => (hk.elim : zz none (fun _ => False) k ∨ w4.heap.size ≤ k)
 have tg2 : ∀ k, zz zn (fun _ => False) k → w0.heap.size ≤ k := fun k hk => (hi0 k hk).elim ((fun _ h => zz_nil h) k) (fun h => by omega)
 have tn2_1 : ∀ k, zz zn (fun _ => False) k → k ≠ b1 := fun k hk => (hi0 k hk).elim ((fun _ h => zz_nil h) k) (fun h => by have := (B1).lt; omega)
 have tn2_92 : ∀ k, zz zn (fun _ => False) k → k ≠ bN := fun k hk => (hi0 k hk).elim ((fun _ h => zz_nil h) k) (fun h => by have := (hBN).lt; omega)
 have tn2_2 : ∀ k, zz zn (fun _ => False) k → k ≠ b2 := fun k hk => (hi0 k hk).elim ((fun _ h => zz_nil h) k) (fun h => by have := (Bs1).lt; omega)
 refine lx_nil ?_
 refine wk_seq ?_
 refine wk_seq ?_
 refine wk_region ?_
 refine lx_value (want rfl) (as_int rfl) ?_
 refine lx_nil ?_
 refine wk_block ?_
 refine wk_loopA [1, 4, 5, 6, 7, 8, 11, 12, 13, 14, 15, 16, 17, 18, 19, 20, 21, 22, 23, 24, 25, 26, 27, 28, 29, 30, 31, 32, 33, 34, 35, 36, 37, 38, 39] (fun j => no j ∨ w0.heap.size ≤ j) (fun nM ρ w => ∃ (i : Nat) (sq : Option Addr) (cq : Nat) (TT1_1 : Nat → Prop), nM = 4 - i ∧ ρ 4 = .int .i64 i ∧ Blk w b1 (cellsOf B1) 24 ∧ Blk w bN (cellsOf hBN) 3 ∧ Blk w b2 [.slice sq (mI i).length cq] 24 ∧ MZ TT1_1 w sq (mI i) ∧ (∀ k, zz zn TT1_1 k → w0.heap.size ≤ k) ∧ (∀ k, zz zn TT1_1 k → k ≠ b1) ∧ (∀ k, zz zn TT1_1 k → k ≠ bN) ∧ (∀ k, zz zn TT1_1 k → k ≠ b2) ∧ (i ≤ 4)) _ ⟨0, none, 0, (fun _ => False), rfl, rfl, (((B1.ext E1).ext Eb2).ne Es1 (by omega)), ((hBN.ext Eb2).ne Es1 (by omega)), (by first | exact Bs1 | (rw [mI_len (by omega)]; exact Bs1)), hM0, tg2, tn2_1, tn2_92, tn2_2, by omega⟩ ?_
 rintro n1 ρ1 w5 A1 EL1 ⟨i, sq, cq, TT1_1, rfl, hs1_4, BL1_1, BL1_92, BL1_2, tw1L_1, tg1L_1, tn1L_1_1, tn1L_1_92, tn1L_1_2, hi⟩
 have F5 := F4.wide EL1
 have hzL1 := EL1.size
 refine wk_seq ?_
 refine wk_seq ?_
 refine wk_region ?_
 refine lx_value (want rfl) (mv_int hs1_4) ?_
 refine lx_value (want rfl) (mv_slice (A1.at 3 rfl rfl)) ?_
 refine lx_value (want rfl) (rn_len Tryz.underlying77 rfl) ?_
 refine lx_value (want rfl) (rn_lss rfl rfl) ?_
 refine lx_dec (fun hlt => ?_) (fun hlt => ?_)
 ·
  have hi4 : i < 4 := by omega
  refine lx_nil ?_
  refine wk_cond_t rfl ?_
  refine wk_skip ?_
  refine wk_seq ?_
  refine wk_block ?_
  refine wk_seq ?_
  refine wk_mix 18 (fun kS => match kS with | 5 => .val (.agg #[.int .u8 1, .int .i64 (szN i : Int)]) | 7 => .any (fun I v w => w5.heap.size ≤ I.1 ∧ OutF I i w v) | 13 => .any (fun I v w => v = .pointer (some ⟨I.1, 0, none⟩) ∧ w5.heap.size ≤ I.1 ∧ I.1 < I.2 ∧ Blk w I.1 [.slice none 0 0] 24) | 14 => .any (fun I v w => v = .pointer (some ⟨I.1, 0, none⟩) ∧ w5.heap.size ≤ I.1 ∧ I.1 < I.2 ∧ Blk w I.1 [.int .u8 0, .int .i64 0] 36) | 15 => .sto 5 26 (fun J u w => J.1 < J.2 ∧ Blk w J.1 u.cells.toList 24) | 16 => .sto 6 27 (fun J u w => J.1 < J.2 ∧ Blk w J.1 u.cells.toList 36) | _ => .none) (by kernel_rfl) (by kernel_rfl) (by intro kS G hk; (try dsimp only at hk); (split at hk) <;> first | (cases hk; done) | (injection hk with hk; subst hk; exact ⟨by intro j hkj I v w w' hR hG; first | exact hG | (exact ⟨hG.1, hG.2.fr hR (fun _ _ h => h)⟩) | (obtain ⟨h1, h2, hI, h3⟩ := hG; exact ⟨h1, h2, hI, h3.ext hR⟩) | (obtain ⟨h1, h2, hI, h3⟩ := hG; exact ⟨h1, h2, hI, h3.ext hR⟩), fun _ I v w w' hR hG => by first | exact hG | (exact ⟨hG.1, hG.2.fr hR (fun k hk h => h.2 hk)⟩) | (obtain ⟨h1, h2, hI, h3⟩ := hG; exact ⟨h1, h2, hI, h3.fr hR (fun h => h.2 ⟨Nat.le_refl _, hI⟩)⟩) | (obtain ⟨h1, h2, hI, h3⟩ := hG; exact ⟨h1, h2, hI, h3.fr hR (fun h => h.2 ⟨Nat.le_refl _, hI⟩)⟩)⟩)) (by intro kS s y G hk; (try dsimp only at hk); (split at hk) <;> first | (cases hk; done) | (injection hk with hk1 hk2 hk3; subst hk1; subst hk2; subst hk3; exact ⟨by kernel_rfl, by intro j hkj I v w w' hR hG; exact ⟨hG.1, hG.2.ext hR⟩, fun I v w w' hR hG => ⟨hG.1, hG.2.fr hR (fun h => h.2 ⟨Nat.le_refl _, hG.1⟩)⟩⟩)) ?_
  simp only [List.take_succ_cons, List.take_zero, List.take_nil, List.drop_succ_cons, List.drop_zero, List.drop_nil]
  refine mx_calm rfl (want rfl) (fun u1 eu1 fu1 => rn_loadBlk ag_24 sz_24 (A1.at 2 rfl rfl) (BL1_2.ext ((ext_drawn _).trans' eu1)) rfl rfl) ?_
  refine mx_calm rfl (want rfl) (fun u2 eu2 fu2 => mv_slice (A1.at 3 rfl rfl)) ?_
  refine mx_calm rfl (want rfl) (fun u3 eu3 fu3 => mv_int hs1_4) ?_
  refine mx_calm rfl (want rfl) (fun u4 eu4 fu4 => rn_index i Tryz.underlying77 sz_3 rfl rfl rfl hi4) ?_
  refine mx_calm rfl (want rfl) (fun u5 eu5 fu5 => rn_load1 ag_3 rfl (((BL1_92.ext ((ext_drawn _).trans' eu5))).cell (0 + i * 1) (sz_cell hi4))) ?_
  refine mx_val rfl (want rfl) (fun u6 eu6 fu6 => do_call (ent_func cf_41 (argsC (t_int rfl) args0)) (int_ct _ u6) (fun _ _ E h => ⟨E, h⟩)) ?_
  refine mx_calm rfl (want rfl) (fun u7 eu7 fu7 => rn_build2 (t_int rfl) (t_agg rfl) (fun w => bd_38_0_1 _ _ _ w)) ?_
  refine mx_any rfl rfl (want rfl) (fun u8 eu8 fu8 => do_call (ent_func cf_43 (argsC (t_agg rfl) (argsC (t_agg rfl) args0))) (pDo_ct (mI i) sq cq TT1_1 (mI_Bm i) (opI i) ⟨by show (0 : Int) ≤ 1; decide, by show (1 : Int) < 256; decide⟩ u8 ((tw1L_1.ext ((ext_drawn _).trans' eu8))).1) (fun v w' E h => ⟨E, ⟨((ext_drawn _).trans' eu8).size, outF_of hi4 h⟩⟩)) (fun I25 v25 => ?_)
  refine mx_calm (v := .tuple #[.agg #[.slice (sad (aget (tget v25 0) 0)) (i + 1) (scp (aget (tget v25 0) 0))], .agg #[.int .u8 4, .int .i64 (i : Int)], .slice (sad (tget v25 2)) 0 (scp (tget v25 2)), .int .i64 0]) rfl (want rfl) (fun u9 eu9 fu9 => by obtain ⟨_, s5, c5, t5, d5, rfl, _⟩ := fu9 25 _ rfl (show (25 : Nat) ∈ _ from by decide); exact rn_move rfl) ?_
  refine mx_calm rfl (want rfl) (fun u10 eu10 fu10 => rn_extract rfl rfl) ?_
  refine mx_calm rfl (want rfl) (fun u11 eu11 fu11 => rn_extract rfl rfl) ?_
  refine mx_calm rfl (want rfl) (fun u12 eu12 fu12 => rn_extract rfl rfl) ?_
  refine mx_calm rfl (want rfl) (fun u13 eu13 fu13 => rn_extract rfl rfl) ?_
  refine mx_any rfl rfl (want rfl) (fun u14 eu14 fu14 => (do_new3 (rn_alloc ze_24) (show _ ≤ _ from (((ext_drawn _).trans' eu14)).size)).mono (fun v w' h => ⟨h.1, h.2⟩)) (fun I5 v5 => ?_)
  refine mx_any rfl rfl (want rfl) (fun u15 eu15 fu15 => (do_new3 (rn_alloc ze_36) (show _ ≤ _ from (((ext_drawn _).trans' eu15)).size)).mono (fun v w' h => ⟨h.1, h.2⟩)) (fun I6 v6 => ?_)
  refine mx_sto rfl rfl rfl rfl (want rfl) (fun u16 eu16 fu16 _ => by obtain ⟨rfl, hl5, hi5, hB5⟩ := fu16 5 _ rfl (show (5 : Nat) ∈ _ from by decide); exact (do_sto sz_24 rfl rfl rfl rfl rfl hB5 rfl ⟨Nat.le_refl _, hi5⟩).mono (fun v w' h => ⟨h.1, h.2.1, hi5, h.2.2⟩)) ?_
  refine mx_sto rfl rfl rfl rfl (want rfl) (fun u17 eu17 fu17 _ => by obtain ⟨rfl, hl6, hi6, hB6⟩ := fu17 6 _ rfl (show (6 : Nat) ∈ _ from by decide); exact (do_sto sz_36 rfl rfl rfl rfl rfl hB6 rfl ⟨Nat.le_refl _, hi6⟩).mono (fun v w' h => ⟨h.1, h.2.1, hi6, h.2.2⟩)) ?_
  refine mx_calm rfl (want rfl) (fun u18 eu18 fu18 => as_slice rfl) ?_
  refine mx_nil (fun w6 E2' H1 HS => ?_)
  have E2 := (ext_drawn _).trans' E2'
  have F6 := F5.ext E2
  have hz2 := E2.size
  have hI6 := (HS.1 6 _ rfl).2
  have hI5 := (HS.1 5 _ rfl).2
  have hI25 := (HS.1 25 _ rfl).2
  have hX6_5 := HS.2 6 _ 5 _ rfl rfl (show (6 : Nat) ≠ 5 from by decide)
  have hX6_25 := HS.2 6 _ 25 _ rfl rfl (show (6 : Nat) ≠ 25 from by decide)
  have hX5_25 := HS.2 5 _ 25 _ rfl rfl (show (5 : Nat) ≠ 25 from by decide)
  simp only at hI6
  simp only at hI5
  simp only at hI25
  simp only at hX6_5
  simp only at hX6_25
  simp only at hX5_25
  have g6 := H1 6 _ rfl
  obtain ⟨⟨_, hv6, hb6, _, _⟩, hi6, hB6⟩ := g6; subst hv6; have hlb6 := hB6.lt
  have g5 := H1 5 _ rfl
  obtain ⟨⟨_, hv5, hb5, _, _⟩, hi5, hB5⟩ := g5; subst hv5; have hlb5 := hB5.lt
  have g25 := H1 25 _ rfl
  obtain ⟨hI25a, sM, cM, stM, ctM, rfl, hMM⟩ := g25
  have hMZ : MZ (Iv I25.1 I25.2) w6 sM (mI (i + 1)) := ⟨hMM, fun k hk => by have h9 := hk.2; omega⟩
  have hinc1 := fun (k : Nat) (hk : zz zn (Iv I25.1 I25.2) k) => (Or.inr (by have h9 : I25.1 ≤ k := hk.1; omega) : zz zn TT1_1 k ∨ w5.heap.size ≤ k)
  have tg3 : ∀ k, zz zn (Iv I25.1 I25.2) k → w0.heap.size ≤ k := fun k hk => (hinc1 k hk).elim (tg1L_1 k) (fun h => by omega)
  have tn3_1 : ∀ k, zz zn (Iv I25.1 I25.2) k → k ≠ b1 := fun k hk => (hinc1 k hk).elim (tn1L_1_1 k) (fun h => by have h9 : I25.1 ≤ k ∧ k < I25.2 := hk; have := (BL1_1).lt; omega)
  have tn3_92 : ∀ k, zz zn (Iv I25.1 I25.2) k → k ≠ bN := fun k hk => (hinc1 k hk).elim (tn1L_1_92 k) (fun h => by have h9 : I25.1 ≤ k ∧ k < I25.2 := hk; have := (BL1_92).lt; omega)
  have tn3_2 : ∀ k, zz zn (Iv I25.1 I25.2) k → k ≠ b2 := fun k hk => (hinc1 k hk).elim (tn1L_1_2 k) (fun h => by have h9 : I25.1 ≤ k ∧ k < I25.2 := hk; have := (BL1_2).lt; omega)
  have nb1 : ∀ k, zz zn (Iv I25.1 I25.2) k → k ≠ I6.1 := fun k hk => by have h9 : I25.1 ≤ k ∧ k < I25.2 := hk; have := (hMZ).lt hk; omega
  have nb2 : ∀ k, zz zn (Iv I25.1 I25.2) k → k ≠ I5.1 := fun k hk => by have h9 : I25.1 ≤ k ∧ k < I25.2 := hk; have := (hMZ).lt hk; omega
  refine lx_value (want rfl) (as_int rfl) ?_
  refine lx_nil ?_
  refine wk_seq ?_
  refine wk_seq ?_
  refine wk_mix 6 (fun kS => match kS with | 5 => .val (.agg #[.int .u8 4, .int .i64 (i : Int)]) | _ => .none) (by kernel_rfl) (by kernel_rfl) (by intro kS G hk; (try dsimp only at hk); (split at hk) <;> first | (cases hk; done) | (injection hk with hk; subst hk; exact ⟨by intro j hkj I v w w' hR hG; first | exact hG, fun ⟨_, _, _, _, hs⟩ => by (try dsimp only at hs); split at hs <;> cases hs⟩)) (by intro kS s y G hk; (try dsimp only at hk); split at hk <;> cases hk) ?_
  simp only [List.take_succ_cons, List.take_zero, List.take_nil, List.drop_succ_cons, List.drop_zero, List.drop_nil]
  refine mx_calm rfl (want rfl) (fun u19 eu19 fu19 => mv_int rfl) ?_
  refine mx_calm rfl (want rfl) (fun u20 eu20 fu20 => rn_neq rfl rfl) ?_
  refine mx_dec_f ((fun h => h rfl)) ?_
  refine mx_calm rfl (want rfl) (fun u21 eu21 fu21 => mv_bool rfl) ?_
  refine mx_calm rfl (want_if (j := 2) (d := 32) (x := false) (y := false) rfl rfl (by decide) rfl) (fun u22 eu22 fu22 => rn_loadBlk ag_36 sz_36 rfl (hB6.ext ((ext_drawn _).trans' eu22)) rfl rfl) ?_
  refine mx_calm rfl (want_if (j := 2) (d := 32) (x := false) (y := false) rfl rfl (by decide) rfl) (fun u23 eu23 fu23 => mv_int hs1_4) ?_
  refine mx_val rfl (want_if (j := 2) (d := 32) (x := false) (y := false) rfl rfl (by decide) rfl) (fun u24 eu24 fu24 => do_call (ent_func cf_61 (argsC (t_int rfl) args0)) (ref_ct _ u24) (fun _ _ E h => ⟨E, h⟩)) ?_
  refine mx_nil (fun w7 E3' H2 HS => ?_)
  have E3 := (ext_drawn _).trans' E3'
  have F7 := F6.ext E3
  have hz3 := E3.size
  refine lx_value (want_if (j := 2) (d := 32) (x := false) (y := false) rfl rfl (by decide) rfl) (rn_cmpS (t_agg rfl) (t_agg rfl) (gneq_36 _ _ _ _) (neq_36 _ _ _ _)) ?_
  refine lx_dec_f ((fun h => h ⟨rfl, rfl⟩)) ?_
  refine lx_value (want rfl) (pick_f rfl rfl) ?_
  refine lx_nil ?_
  refine wk_cond_f rfl ?_
  refine wk_skip ?_
  refine wk_region ?_
  refine lx_value (want rfl) (rn_loadBlk ag_24 sz_24 rfl (hB5.ext E3) rfl rfl) ?_
  refine lx_set (want rfl) sz_24 (A1.at 2 rfl rfl) (t_agg rfl) rfl rfl rfl ((BL1_2.ext E2).ext E3) (Nat.le_of_ble_eq_true rfl) ?_
  intro w8 Es2 Bs2
  have F8 := F7.set Es2 (by omega)
  have hzs2 := Es2.size
  refine lx_nil ?_
  refine wk_region ?_
  refine lx_value (want rfl) (mv_int hs1_4) ?_
  refine lx_value (want rfl) (rn_add rfl rfl (by omega)) ?_
  refine lx_value (want rfl) (as_int rfl) ?_
  refine lx_nil ?_
  exact ⟨rfl, ((((((((((((((((((((((((((((((((((((A1.up rfl _).up rfl _).up rfl _).up rfl _).up rfl _).up rfl _).up rfl _).up rfl _).up rfl _).up rfl _).up rfl _).up rfl _).up rfl _).up rfl _).up rfl _).up rfl _).up rfl _).up rfl _).up rfl _).none _).none _).up rfl _).up rfl _).up rfl _).up rfl _).up rfl _).up rfl _).up rfl _).up rfl _).up rfl _).up rfl _).up rfl _).none _).up rfl _).up rfl _).up rfl _), Fr.between F4 F8 (by omega), _, (by omega), i + 1, sM, cM, (Iv I25.1 I25.2), rfl, rfl, (((BL1_1.ext E2).ext E3).ne Es2 (by omega)), (((BL1_92.ext E2).ext E3).ne Es2 (by omega)), (by first | exact Bs2 | (rw [mI_len (by omega)]; exact Bs2)), ((hMZ.ext E3).fr Es2 (fun k hk h => tn3_2 k hk h)), tg3, tn3_1, tn3_92, tn3_2, by omega⟩
 ·
  refine lx_nil ?_
  refine wk_cond_f rfl ?_
  refine wk_exit ?_
  refine wk_seq ?_
  refine wk_region ?_
  refine lx_value (want rfl) (rn_loadBlk ag_24 sz_24 (A1.at 2 rfl rfl) BL1_2 rfl rfl) ?_
  refine lx_set (want rfl) sz_24 (A1.at 0 rfl rfl) (t_agg rfl) rfl rfl rfl BL1_1 (Nat.le_of_ble_eq_true rfl) ?_
  intro w6 Es3 Bs3
  have F9 := F5.set Es3 (by omega)
  have hzs3 := Es3.size
  refine lx_value (want rfl) (as_bool rfl) ?_
  refine lx_nil ?_
  refine wk_ret ?_
  refine retR2 Tryz.results45 (.cell (A1.at 0 rfl rfl) (run_loadVar_blk ag_24 sz_24 Bs3 rfl rfl)) (.tmp (t_bool rfl)) F9 ?_
  have e4 : i = 4 := by omega
  subst e4
  have h := ((tw1L_1.fr Es3 (fun k hk h => tn1L_1_1 k hk h))).1
  rw [mI_4] at h
  exact ⟨_, _, rfl, h.wide (fun k hk => ⟨tg1L_1 k hk, ((tw1L_1.fr Es3 (fun k hk h => tn1L_1_1 k hk h))).2 k hk⟩)⟩

theorem pispic_ct (p : Pic) (sv : Option Addr) (cv : Nat) (sk : Option Addr) (ck : Nat) (G : Nat → Prop) (hB : Bp p) (w0 : World) (hv : VlS G w0 sv p.1) (hk : VvS G w0 sk p.2) :
  CT Tryz.prog 33 [.agg #[.slice sv p.1.length cv, .slice sk p.2.length ck]] w0 no (fun v _ => v = .bool (isPicB p)) := by
 have hB1 := hB.1
 have hB2 := hB.2.1
 have F0 := Fr.refl no w0
 refine ct_body Tryz.func33 rfl Tryz.ntmps33 (Nat.le_of_ble_eq_true rfl) ?_
 refine wk_seq ?_
 refine wk_region ?_
 refine lx_new (want rfl) (rn_box (t_agg rfl)) ?_
 intro b1 w1 hb1 Eb1 B1 hlb1
 have F1 := F0.ext Eb1
 have hzb1 := Eb1.size
 refine lx_value (want rfl) (as_bool rfl) ?_
 refine lx_nil ?_
 refine wk_seq ?_
 refine wk_mix 11 (fun kS => match kS with | 2 => .any (fun I v w => ∃ s c, v = .agg #[.slice s (memC p.2).length c] ∧ MemS (Iv I.1 I.2) w s (memC p.2)) | 5 => .any (fun I v w => ∃ pv, v = .tuple #[pv, .int .i64 (drawR (memC p.2) p.1).1] ∧ PicI I w pv (drawR (memC p.2) p.1).2) | 9 => .any (fun I v w => v = .pointer (some ⟨I.1, 0, none⟩) ∧ w1.heap.size ≤ I.1 ∧ I.1 < I.2 ∧ Blk w I.1 [.slice none 0 0, .slice none 0 0] 45) | 10 => .sto 3 12 (fun J u w => J.1 < J.2 ∧ Blk w J.1 u.cells.toList 45) | _ => .none) (by kernel_rfl) (by kernel_rfl) (by intro kS G hk; (try dsimp only at hk); (split at hk) <;> first | (cases hk; done) | (injection hk with hk; subst hk; exact ⟨by intro j hkj I v w w' hR hG; first | exact hG | (obtain ⟨s, c, h1, h2⟩ := hG; exact ⟨s, c, h1, h2.fr (st_stab _) hR (fun _ _ h => h)⟩) | (obtain ⟨pv, h1, h2⟩ := hG; exact ⟨pv, h1, h2.fr hR (fun _ _ h => h)⟩) | (obtain ⟨h1, h2, hI, h3⟩ := hG; exact ⟨h1, h2, hI, h3.ext hR⟩), fun _ I v w w' hR hG => by first | exact hG | (obtain ⟨s, c, h1, h2⟩ := hG; exact ⟨s, c, h1, h2.fr (st_stab _) hR (fun k hk h => h.2 hk)⟩) | (obtain ⟨pv, h1, h2⟩ := hG; exact ⟨pv, h1, h2.fr hR (fun k hk h => h.2 hk)⟩) | (obtain ⟨h1, h2, hI, h3⟩ := hG; exact ⟨h1, h2, hI, h3.fr hR (fun h => h.2 ⟨Nat.le_refl _, hI⟩)⟩)⟩)) (by intro kS s y G hk; (try dsimp only at hk); (split at hk) <;> first | (cases hk; done) | (injection hk with hk1 hk2 hk3; subst hk1; subst hk2; subst hk3; exact ⟨by kernel_rfl, by intro j hkj I v w w' hR hG; exact ⟨hG.1, hG.2.ext hR⟩, fun I v w w' hR hG => ⟨hG.1, hG.2.fr hR (fun h => h.2 ⟨Nat.le_refl _, hG.1⟩)⟩⟩)) ?_
 simp only [List.take_succ_cons, List.take_zero, List.take_nil, List.drop_succ_cons, List.drop_zero, List.drop_nil]
 refine mx_calm rfl (want rfl) (fun u1 eu1 fu1 => rn_fieldAddr fa_45_1 rfl) ?_
 refine mx_calm rfl (want rfl) (fun u2 eu2 fu2 => rn_load1Blk ag_43 rfl (B1.ext ((ext_drawn _).trans' eu2)) rfl) ?_
 refine mx_any rfl rfl (want rfl) (fun u3 eu3 fu3 => do_call (ent_func cf_79 (argsC (t_slice rfl) args0)) (pofcells_ct p.2 sk ck G hB.2.1 hB.2.2 u3 (hk.fr (vv_stab _) (F1.ext ((ext_drawn _).trans' eu3)) (fun _ _ h => h))) (fun v w' E h => ⟨E, h.read⟩)) (fun I8 v8 => ?_)
 refine mx_calm rfl (want rfl) (fun u4 eu4 fu4 => rn_fieldAddr fa_45_0 rfl) ?_
 refine mx_calm rfl (want rfl) (fun u5 eu5 fu5 => rn_load1Blk ag_30 rfl (B1.ext ((ext_drawn _).trans' eu5)) rfl) ?_
 refine mx_any rfl rfl (want rfl) (fun u6 eu6 fu6 => by obtain ⟨sM8, cM8, rfl, hM8⟩ := fu6 8 _ rfl (show (8 : Nat) ∈ _ from by decide); exact do_call (ent_func cf_30 (argsC (t_agg rfl) (argsC (t_slice rfl) args0))) (pDraw_ct (memC p.2) sM8 cM8 _ (memC_Bm hB.2.1 hB.2.2) p.1 sv cv G hB.1 u6 hM8 (hv.fr (vl_stab _) (F1.ext ((ext_drawn _).trans' eu6)) (fun _ _ h => h))) (fun v w' E h => ⟨E, h⟩)) (fun I11 v11 => ?_)
 refine mx_calm (v := .tuple #[.agg #[.slice (sad (aget (tget v11 0) 0)) (sln (aget (tget v11 0) 0)) (scp (aget (tget v11 0) 0)), .slice (sad (aget (tget v11 0) 1)) (sln (aget (tget v11 0) 1)) (scp (aget (tget v11 0) 1))], .int .i64 (drawR (memC p.2) p.1).1]) rfl (want rfl) (fun u7 eu7 fu7 => by obtain ⟨pv, rfl, s1, c1, s2, c2, rfl, _, _⟩ := fu7 11 _ rfl (show (11 : Nat) ∈ _ from by decide); exact rn_move rfl) ?_
 refine mx_calm rfl (want rfl) (fun u8 eu8 fu8 => rn_extract rfl rfl) ?_
 refine mx_calm rfl (want rfl) (fun u9 eu9 fu9 => rn_extract rfl rfl) ?_
 refine mx_any rfl rfl (want rfl) (fun u10 eu10 fu10 => (do_new3 (rn_alloc ze_45) (show _ ≤ _ from (((ext_drawn _).trans' eu10)).size)).mono (fun v w' h => ⟨h.1, h.2⟩)) (fun I3 v3 => ?_)
 refine mx_sto rfl rfl rfl rfl (want rfl) (fun u11 eu11 fu11 _ => by obtain ⟨rfl, hl3, hi3, hB3⟩ := fu11 3 _ rfl (show (3 : Nat) ∈ _ from by decide); exact (do_sto sz_45 rfl rfl rfl rfl rfl hB3 rfl ⟨Nat.le_refl _, hi3⟩).mono (fun v w' h => ⟨h.1, h.2.1, hi3, h.2.2⟩)) ?_
 refine mx_nil (fun w2 E1' H1 HS => ?_)
 have E1 := (ext_drawn _).trans' E1'
 have F2 := F1.ext E1
 have hz1 := E1.size
 have hI3 := (HS.1 3 _ rfl).2
 have hI11 := (HS.1 11 _ rfl).2
 have hI8 := (HS.1 8 _ rfl).2
 have hX3_11 := HS.2 3 _ 11 _ rfl rfl (show (3 : Nat) ≠ 11 from by decide)
 have hX3_8 := HS.2 3 _ 8 _ rfl rfl (show (3 : Nat) ≠ 8 from by decide)
 have hX11_8 := HS.2 11 _ 8 _ rfl rfl (show (11 : Nat) ≠ 8 from by decide)
 simp only at hI3
 simp only at hI11
 simp only at hI8
 simp only at hX3_11
 simp only at hX3_8
 simp only at hX11_8
 have g3 := H1 3 _ rfl
 obtain ⟨⟨_, hv3, hb3, _, _⟩, hi3, hB3⟩ := g3; subst hv3; have hlb3 := hB3.lt
 have g11 := H1 11 _ rfl
 obtain ⟨pv, rfl, hPI⟩ := g11
 obtain ⟨s1, c1, s2, c2, rfl, hV1, hV2⟩ := hPI
 have g8 := H1 8 _ rfl
 refine lx_value (want rfl) (as_int rfl) ?_
 refine lx_nil ?_
 refine wk_seq ?_
 refine wk_region ?_
 refine lx_value (want rfl) (mv_int rfl) ?_
 refine lx_value (want rfl) (rn_eql rfl rfl) ?_
 refine lx_dec (fun he => ?_) (fun he => ?_)
 ·
  refine lx_value (want rfl) (mv_bool rfl) ?_
  refine lx_value (want_if (j := 2) (d := 16) (x := true) (y := true) rfl rfl (by decide) rfl) (rn_loadBlk ag_45 sz_45 rfl (B1.ext E1) rfl rfl) ?_
  refine lx_value (want_if (j := 2) (d := 16) (x := true) (y := true) rfl rfl (by decide) rfl) (rn_loadBlk ag_45 sz_45 rfl hB3 rfl rfl) ?_
  refine lx_call (want_if (j := 2) (d := 16) (x := true) (y := true) rfl rfl (by decide) rfl) (ent_func cf_80 (argsC (t_agg rfl) (argsC (t_agg rfl) args0))) (psame_ct p sv cv sk ck G (drawR (memC p.2) p.1).2 s1 c1 s2 c2 _ (drawR_Bp (memC_Bm hB.2.1 hB.2.2) hB.1) w2 (hv.fr (vl_stab _) F2 (fun _ _ h => h)) (hk.fr (vv_stab _) F2 (fun _ _ h => h)) hV1 hV2) ?_
  rintro _ w3 E2 rfl
  have F3 := F2.ext E2
  have hz2 := E2.size
  refine lx_value (want rfl) (pick_t rfl rfl) ?_
  refine lx_value (want rfl) (as_bool rfl) ?_
  refine lx_nil ?_
  refine wk_ret ?_
  refine retR1 Tryz.results33 (.tmp (t_bool rfl)) F3 ?_
  exact isPic_t he
 ·
  refine lx_value (want rfl) (mv_bool rfl) ?_
  refine lx_skip (want_if (j := 2) (d := 16) (x := true) (y := false) rfl rfl (by decide) rfl) ?_
  refine lx_skip (want_if (j := 2) (d := 16) (x := true) (y := false) rfl rfl (by decide) rfl) ?_
  refine lx_skip (want_if (j := 2) (d := 16) (x := true) (y := false) rfl rfl (by decide) rfl) ?_
  refine lx_value (want rfl) (pick_f rfl rfl) ?_
  refine lx_value (want rfl) (as_bool rfl) ?_
  refine lx_nil ?_
  refine wk_ret ?_
  refine retR1 Tryz.results33 (.tmp (t_bool rfl)) F2 ?_
  exact isPic_f he

end Go.Proofs.YtnhgfmbmfjmonaaGreatDoor

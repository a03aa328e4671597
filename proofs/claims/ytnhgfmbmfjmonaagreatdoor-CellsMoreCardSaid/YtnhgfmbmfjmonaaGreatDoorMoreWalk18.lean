/- What functions compute: cellsmore. -/
import Derived.Test.YtnhgfmbmfjmonaaGreatDoorMoreFacts
import Derived.Test.YtnhgfmbmfjmonaaGreatDoorMorePre
import Derived.Test.YtnhgfmbmfjmonaaGreatDoorMoreWalk14
import Derived.Test.YtnhgfmbmfjmonaaGreatDoorMoreWalk15
import Derived.Test.YtnhgfmbmfjmonaaGreatDoorMoreWalk16
import Derived.Test.YtnhgfmbmfjmonaaGreatDoorMoreWalk17
import Derived.Test.YtnhgfmbmfjmonaaGreatDoorMoreWalk2
import Derived.Test.YtnhgfmbmfjmonaaGreatDoorMoreWalk4
import Derived.Test.YtnhgfmbmfjmonaaGreatDoorMoreWalk5
set_option maxRecDepth 100000
set_option linter.unusedVariables false
set_option linter.unusedSimpArgs false
namespace Go.Proofs.YtnhgfmbmfjmonaaGreatDoor
open Go Go.RowKit Go.Mix Go.Eng
set_option maxHeartbeats 4000000 in
set_option maxRecDepth 100000 in
theorem cellsmore_ct (x : List Q4) (s : Option Addr) (c : Nat) (F : Nat → Prop) (hb : q4B x) (w0 : World) (hx : Q4S F w0 s x) :
  CT Tryz.prog 14 [.slice s x.length c] w0 no (fun v _ => v = .bool true) := by
 have F0 := Fr.refl no w0
 refine ct_body Tryz.func14 rfl Tryz.ntmps14 (Nat.le_of_ble_eq_true rfl) ?_
 refine wk_seq ?_
 refine wk_region ?_
 refine lx_value (want rfl) (as_bool rfl) ?_
 refine lx_nil ?_
 refine wk_seq ?_
 refine wk_region ?_
 refine lx_call (want rfl) (ent_func cf_45 args0) (first_ct w0) ?_
 rintro _ w1 E1 ⟨sM, cM, rfl, hM0⟩
 have F1 := F0.ext E1
 have hz1 := E1.size
 have hMZ : MZ (Iv w0.heap.size w1.heap.size) w1 sM (stN x 0) := MZ.of hM0
 have hincm := fun (k : Nat) (hk : zz zn (Iv w0.heap.size w1.heap.size) k) => (Or.inr hk.1 : zz none (fun _ => False) k ∨ w0.heap.size ≤ k)
 have tg2 : ∀ k, zz zn (Iv w0.heap.size w1.heap.size) k → w0.heap.size ≤ k := fun k hk => (hincm k hk).elim ((fun _ h => zz_nil h) k) (fun h => by omega)
 refine lx_value (want rfl) (mv_tuple rfl) ?_
 refine lx_value (want rfl) (rn_extract rfl rfl) ?_
 refine lx_value (want rfl) (rn_extract rfl rfl) ?_
 refine lx_b_t (rfl) ?_
 refine lx_new (want rfl) (rn_alloc ze_24) ?_
 intro b1 w2 hb1 Eb1 B1 hlb1
 have F2 := F1.ext Eb1
 have hzb1 := Eb1.size
 have nb1 : ∀ k, zz zn (Iv w0.heap.size w1.heap.size) k → k ≠ b1 := fun k hk => by have := (hMZ).lt hk; omega
 refine lx_set (want rfl) sz_24 rfl (t_agg rfl) rfl rfl rfl B1 (Nat.le_of_ble_eq_true rfl) ?_
 intro w3 Es1 Bs1
 have F3 := F2.set Es1 (by omega)
 have hzs1 := Es1.size
 refine lx_value (want rfl) (as_bool rfl) ?_
 refine lx_nil ?_
 refine wk_seq ?_
 refine wk_seq ?_
 refine wk_region ?_
 refine lx_value (want rfl) (mv_bool rfl) ?_
 refine lx_value (want rfl) (rn_not rfl) ?_
 refine lx_nil ?_
 refine wk_cond_f rfl ?_
 refine wk_skip ?_
 refine wk_seq ?_
 refine wk_region ?_
 refine lx_call (want rfl) (ent_func cf_61 (argsC (t_int rfl) args0)) (ref_ct _ w3) ?_
 rintro _ w4 E2 rfl
 have F4 := F3.ext E2
 have hz2 := E2.size
 refine lx_call (want rfl) (ent_func cf_61 (argsC (t_int rfl) args0)) (ref_ct _ w4) ?_
 rintro _ w5 E3 rfl
 have F5 := F4.ext E3
 have hz3 := E3.size
 refine lx_call (want rfl) (ent_func cf_61 (argsC (t_int rfl) args0)) (ref_ct _ w5) ?_
 rintro _ w6 E4 rfl
 have F6 := F5.ext E4
 have hz4 := E4.size
 refine lx_call (want rfl) (ent_func cf_61 (argsC (t_int rfl) args0)) (ref_ct _ w6) ?_
 rintro _ w7 E5 rfl
 have F7 := F6.ext E5
 have hz5 := E5.size
 refine lx_newS (want rfl) (rn_bslice (xs := [.tmp 26, .tmp 27, .tmp 28, .tmp 29]) Tryz.underlying30 sz_36 ze_36 rfl (argsC (t_agg rfl) (argsC (t_agg rfl) (argsC (t_agg rfl) (argsC (t_agg rfl) args0)))) (CL.cons rfl rfl (CL.cons rfl rfl (CL.cons rfl rfl (CL.cons rfl rfl CL.nil)))) rfl (Nat.le_of_ble_eq_true rfl)) ?_
 intro b2 w8 hb2 Eb2 B2 hlb2
 have F8 := F7.ext Eb2
 have hzb2 := Eb2.size
 have nb2 : ∀ k, zz zn (Iv w0.heap.size w1.heap.size) k → k ≠ b2 := fun k hk => by have := (hMZ).lt hk; omega
 refine lx_value (want rfl) (as_slice rfl) ?_
 refine lx_nil ?_
 refine wk_seq ?_
 refine wk_region ?_
 refine lx_value (want rfl) (mv_slice rfl) ?_
 refine lx_call (want rfl) (ent_func cf_46 (argsC (t_slice rfl) args0)) (things_ct x s c F hb w8 (hx.fr (q4_stab _) F8 (fun _ _ h => h))) ?_
 rintro _ w9 E6 ⟨sl, cl, rfl, hl⟩
 have F9 := F8.ext E6
 have hz6 := E6.size
 have hQZ := QZ.of hl
 have hincq := fun (k : Nat) (hk : zz zn (Iv w8.heap.size w9.heap.size) k) => (Or.inr hk.1 : zz none (fun _ => False) k ∨ w8.heap.size ≤ k)
 have tg4 : ∀ k, zz zn (Iv w8.heap.size w9.heap.size) k → w0.heap.size ≤ k := fun k hk => (hincq k hk).elim ((fun _ h => zz_nil h) k) (fun h => by omega)
 have tn4_1 : ∀ k, zz zn (Iv w8.heap.size w9.heap.size) k → k ≠ b1 := fun k hk => (hincq k hk).elim ((fun _ h => zz_nil h) k) (fun h => by have := (Bs1).lt; omega)
 have tn4_2 : ∀ k, zz zn (Iv w8.heap.size w9.heap.size) k → k ≠ b2 := fun k hk => (hincq k hk).elim ((fun _ h => zz_nil h) k) (fun h => by have := (B2).lt; omega)
 have tt4_1 : ∀ k, zz zn (Iv w8.heap.size w9.heap.size) k → zz zn (Iv w0.heap.size w1.heap.size) k → False := fun k hk h2 => (hincq k hk).elim (fun h => (fun _ h _ => zz_nil h) k h h2) (fun h => by have := (hMZ).lt h2; omega)
 refine lx_value (want rfl) (as_slice rfl) ?_
 refine lx_nil ?_
 refine wk_seq ?_
 refine wk_region ?_
 refine lx_value (want rfl) (as_int rfl) ?_
 refine lx_value (want rfl) (as_int rfl) ?_
 refine lx_nil ?_
 refine wk_seq ?_
 refine wk_seq ?_
 refine wk_region ?_
 refine lx_value (want rfl) (as_int rfl) ?_
 refine lx_nil ?_
 refine wk_block ?_
 refine wk_loopA [2, 7, 8, 9, 10, 11, 12, 13, 14, 15, 16, 17, 18, 19, 33, 34, 35, 36, 37, 38, 39, 40, 41, 42, 43, 44, 45, 46, 47, 48, 49, 50, 51, 52, 53, 54, 55, 56, 57, 58, 59, 60, 61, 62, 63, 64, 65, 66, 67, 68, 69, 70, 71, 72, 73, 74, 75, 76, 77, 78, 79, 80, 81, 82, 83, 84, 85, 86, 87, 88, 89, 90, 91, 92, 93, 94, 95, 96, 97, 98, 99, 100, 101, 102, 103, 104, 105, 106, 107, 108] (fun j => no j ∨ w0.heap.size ≤ j) (fun nM ρ w => ∃ (i : Nat) (sq : Option Addr) (cq : Nat) (TT1_1 : Nat → Prop) (TT1_2 : Nat → Prop), nM = (thL x).length - i ∧ ρ 9 = .int .i64 i ∧ ρ 7 = .int .i64 (rdN x i : Nat) ∧ ρ 8 = .int .i64 (heN x i : Nat) ∧ Blk w b1 [.slice sq (stN x i).length cq] 24 ∧ Blk w b2 (cellsOf B2) 36 ∧ MZ TT1_1 w sq (stN x i) ∧ (∀ k, zz zn TT1_1 k → w0.heap.size ≤ k) ∧ (∀ k, zz zn TT1_1 k → k ≠ b1) ∧ (∀ k, zz zn TT1_1 k → k ≠ b2) ∧ QZ TT1_2 w sl (thL x) ∧ (∀ k, zz zn TT1_2 k → w0.heap.size ≤ k) ∧ (∀ k, zz zn TT1_2 k → k ≠ b1) ∧ (∀ k, zz zn TT1_2 k → k ≠ b2) ∧ (∀ k, zz zn TT1_1 k → zz zn TT1_2 k → False) ∧ (i ≤ (thL x).length)) _ ⟨0, sM, cM, (Iv w0.heap.size w1.heap.size), (Iv w8.heap.size w9.heap.size), rfl, rfl, rfl, rfl, (by first | exact ((((((Bs1.ext E2).ext E3).ext E4).ext E5).ext Eb2).ext E6) | (rw [stN_len]; exact ((((((Bs1.ext E2).ext E3).ext E4).ext E5).ext Eb2).ext E6))), (B2.ext E6), ((((((((hMZ.ext Eb1).fr Es1 (fun k hk h => nb1 k hk h)).ext E2).ext E3).ext E4).ext E5).ext Eb2).ext E6), tg2, nb1, nb2, hQZ, tg4, tn4_1, tn4_2, (fun k h1 h2 => tt4_1 k h2 h1), Nat.zero_le _⟩ ?_
 rintro n1 ρ1 w10 A1 EL1 ⟨i, sq, cq, TT1_1, TT1_2, rfl, hs1_9, hs1_7, hs1_8, BL1_1, BL1_2, tw1L_1, tg1L_1, tn1L_1_1, tn1L_1_2, tw1L_2, tg1L_2, tn1L_2_1, tn1L_2_2, tt1L_1_2, hi⟩
 have F10 := F9.wide EL1
 have hzL1 := EL1.size
 refine wk_seq ?_
 refine wk_seq ?_
 refine wk_region ?_
 refine lx_value (want rfl) (mv_int hs1_9) ?_
 refine lx_value (want rfl) (mv_slice (A1.at 6 rfl rfl)) ?_
 refine lx_value (want rfl) (rn_len Tryz.underlying25 rfl) ?_
 refine lx_value (want rfl) (rn_lss rfl rfl) ?_
 refine lx_dec (fun hlt => ?_) (fun hlt => ?_)
 ·
  obtain ⟨o, ho⟩ := getx hlt
  obtain ⟨bo_, oo, hso, hZo, hco⟩ := (tw1L_2).1 i o ho
  subst hso
  have hld := told_len ho
  have hhe := he_le x i
  have hrd := rd_le x i
  have hMold := (tw1L_1).1
  have hbolt := (tw1L_2).lt hZo
  have hl24 : (thL x).length ≤ 24 := by rw [thL_len]; exact (thN_le x).1
  refine lx_nil ?_
  refine wk_cond_t rfl ?_
  refine wk_skip ?_
  refine wk_seq ?_
  refine wk_block ?_
  refine wk_seq ?_
  refine wk_mix 17 (fun kS => match kS with | 1 => .any (fun I v w => ∃ s c, v = .agg #[.slice s (stN x i).length c] ∧ MemS (Iv I.1 I.2) w s (stN x i)) | 6 => .any (fun I v w => w10.heap.size ≤ I.1 ∧ OutDI I w v (0, stN x (i + 1), (resF ((thL x).take i) o), (toldF ((thL x).take i) o))) | 12 => .any (fun I v w => v = .pointer (some ⟨I.1, 0, none⟩) ∧ w10.heap.size ≤ I.1 ∧ I.1 < I.2 ∧ Blk w I.1 [.slice none 0 0] 24) | 13 => .any (fun I v w => v = .pointer (some ⟨I.1, 0, none⟩) ∧ w10.heap.size ≤ I.1 ∧ I.1 < I.2 ∧ Blk w I.1 [.int .u8 0, .int .i64 0] 36) | 14 => .sto 10 47 (fun J u w => J.1 < J.2 ∧ Blk w J.1 u.cells.toList 24) | 15 => .sto 11 48 (fun J u w => J.1 < J.2 ∧ Blk w J.1 u.cells.toList 36) | _ => .none) (by kernel_rfl) (by kernel_rfl) (by intro kS G hk; (try dsimp only at hk); (split at hk) <;> first | (cases hk; done) | (injection hk with hk; subst hk; exact ⟨by intro j hkj I v w w' hR hG; first | exact hG | (obtain ⟨s, c, h1, h2⟩ := hG; exact ⟨s, c, h1, h2.fr (st_stab _) hR (fun _ _ h => h)⟩) | (exact ⟨hG.1, hG.2.fr hR (fun _ _ h => h)⟩) | (obtain ⟨h1, h2, hI, h3⟩ := hG; exact ⟨h1, h2, hI, h3.ext hR⟩) | (obtain ⟨h1, h2, hI, h3⟩ := hG; exact ⟨h1, h2, hI, h3.ext hR⟩), fun _ I v w w' hR hG => by first | exact hG | (obtain ⟨s, c, h1, h2⟩ := hG; exact ⟨s, c, h1, h2.fr (st_stab _) hR (fun k hk h => h.2 hk)⟩) | (exact ⟨hG.1, hG.2.fr hR (fun k hk h => h.2 hk)⟩) | (obtain ⟨h1, h2, hI, h3⟩ := hG; exact ⟨h1, h2, hI, h3.fr hR (fun h => h.2 ⟨Nat.le_refl _, hI⟩)⟩) | (obtain ⟨h1, h2, hI, h3⟩ := hG; exact ⟨h1, h2, hI, h3.fr hR (fun h => h.2 ⟨Nat.le_refl _, hI⟩)⟩)⟩)) (by intro kS s y G hk; (try dsimp only at hk); (split at hk) <;> first | (cases hk; done) | (injection hk with hk1 hk2 hk3; subst hk1; subst hk2; subst hk3; exact ⟨by kernel_rfl, by intro j hkj I v w w' hR hG; exact ⟨hG.1, hG.2.ext hR⟩, fun I v w w' hR hG => ⟨hG.1, hG.2.fr hR (fun h => h.2 ⟨Nat.le_refl _, hG.1⟩)⟩⟩)) ?_
  simp only [List.take_succ_cons, List.take_zero, List.take_nil, List.drop_succ_cons, List.drop_zero, List.drop_nil]
  refine mx_calm rfl (want rfl) (fun u1 eu1 fu1 => rn_loadBlk ag_24 sz_24 (A1.at 3 rfl rfl) (BL1_1.ext ((ext_drawn _).trans' eu1)) rfl rfl) ?_
  refine mx_any rfl rfl (want rfl) (fun u2 eu2 fu2 => do_call (ent_func cf_20 (argsC (t_agg rfl) args0)) (copy_ct (stN x i) sq cq _ (stN_Bm x i) u2 ((tw1L_1.ext ((ext_drawn _).trans' eu2))).1) (fun v w' E h => ⟨E, h.read⟩)) (fun I41 v41 => ?_)
  refine mx_calm rfl (want rfl) (fun u3 eu3 fu3 => mv_slice (A1.at 6 rfl rfl)) ?_
  refine mx_calm rfl (want rfl) (fun u4 eu4 fu4 => mv_int hs1_9) ?_
  refine mx_calm rfl (want rfl) (fun u5 eu5 fu5 => rn_index i Tryz.underlying25 sz_38 rfl rfl rfl (by omega)) ?_
  refine mx_calm rfl (want rfl) (fun u6 eu6 fu6 => rn_loadN (vs := opC o) ag_38 sz_38 rfl rfl (fun j u hj => ((ext_drawn _).trans' eu6).cell (fun h => h) (hco j u hj))) ?_
  refine mx_any rfl rfl (want rfl) (fun u7 eu7 fu7 => by obtain ⟨s41, c41, rfl, hM41⟩ := fu7 41 _ rfl (show (41 : Nat) ∈ _ from by decide); exact do_call (ent_func cf_43 (argsC (t_agg rfl) (argsC (t_agg rfl) args0))) (pDo_ct (stN x i) s41 c41 _ (stN_Bm x i) o (thL_kind (List.mem_of_getElem? ho)) u7 hM41) (fun v w' E h => ⟨E, ⟨((ext_drawn _).trans' eu7).size, by rw [stN_Do ho] at h; exact h⟩⟩)) (fun I46 v46 => ?_)
  refine mx_calm (v := .tuple #[.agg #[.slice (sad (aget (tget v46 0) 0)) (sln (aget (tget v46 0) 0)) (scp (aget (tget v46 0) 0))], .agg #[.int .u8 (resF ((thL x).take i) o).1, .int .i64 (resF ((thL x).take i) o).2], .slice (sad (tget v46 2)) (toldF ((thL x).take i) o).length (scp (tget v46 2)), .int .i64 0]) rfl (want rfl) (fun u8 eu8 fu8 => by obtain ⟨_, s5, n5, c5, t5, d5, rfl, _⟩ := fu8 46 _ rfl (show (46 : Nat) ∈ _ from by decide); exact rn_move rfl) ?_
  refine mx_calm rfl (want rfl) (fun u9 eu9 fu9 => rn_extract rfl rfl) ?_
  refine mx_calm rfl (want rfl) (fun u10 eu10 fu10 => rn_extract rfl rfl) ?_
  refine mx_calm rfl (want rfl) (fun u11 eu11 fu11 => rn_extract rfl rfl) ?_
  refine mx_calm rfl (want rfl) (fun u12 eu12 fu12 => rn_extract rfl rfl) ?_
  refine mx_any rfl rfl (want rfl) (fun u13 eu13 fu13 => (do_new3 (rn_alloc ze_24) (show _ ≤ _ from (((ext_drawn _).trans' eu13)).size)).mono (fun v w' h => ⟨h.1, h.2⟩)) (fun I10 v10 => ?_)
  refine mx_any rfl rfl (want rfl) (fun u14 eu14 fu14 => (do_new3 (rn_alloc ze_36) (show _ ≤ _ from (((ext_drawn _).trans' eu14)).size)).mono (fun v w' h => ⟨h.1, h.2⟩)) (fun I11 v11 => ?_)
  refine mx_sto rfl rfl rfl rfl (want rfl) (fun u15 eu15 fu15 _ => by obtain ⟨rfl, hl10, hi10, hB10⟩ := fu15 10 _ rfl (show (10 : Nat) ∈ _ from by decide); exact (do_sto sz_24 rfl rfl rfl rfl rfl hB10 rfl ⟨Nat.le_refl _, hi10⟩).mono (fun v w' h => ⟨h.1, h.2.1, hi10, h.2.2⟩)) ?_
  refine mx_sto rfl rfl rfl rfl (want rfl) (fun u16 eu16 fu16 _ => by obtain ⟨rfl, hl11, hi11, hB11⟩ := fu16 11 _ rfl (show (11 : Nat) ∈ _ from by decide); exact (do_sto sz_36 rfl rfl rfl rfl rfl hB11 rfl ⟨Nat.le_refl _, hi11⟩).mono (fun v w' h => ⟨h.1, h.2.1, hi11, h.2.2⟩)) ?_
  refine mx_calm rfl (want rfl) (fun u17 eu17 fu17 => as_slice rfl) ?_
  refine mx_nil (fun w11 E7' H1 HS => ?_)
  have E7 := (ext_drawn _).trans' E7'
  have F11 := F10.ext E7
  have hz7 := E7.size
  have hI11 := (HS.1 11 _ rfl).2
  have hI10 := (HS.1 10 _ rfl).2
  have hI46 := (HS.1 46 _ rfl).2
  have hI41 := (HS.1 41 _ rfl).2
  have hX11_10 := HS.2 11 _ 10 _ rfl rfl (show (11 : Nat) ≠ 10 from by decide)
  have hX11_46 := HS.2 11 _ 46 _ rfl rfl (show (11 : Nat) ≠ 46 from by decide)
  have hX11_41 := HS.2 11 _ 41 _ rfl rfl (show (11 : Nat) ≠ 41 from by decide)
  have hX10_46 := HS.2 10 _ 46 _ rfl rfl (show (10 : Nat) ≠ 46 from by decide)
  have hX10_41 := HS.2 10 _ 41 _ rfl rfl (show (10 : Nat) ≠ 41 from by decide)
  have hX46_41 := HS.2 46 _ 41 _ rfl rfl (show (46 : Nat) ≠ 41 from by decide)
  simp only at hI11
  simp only at hI10
  simp only at hI46
  simp only at hI41
  simp only at hX11_10
  simp only at hX11_46
  simp only at hX11_41
  simp only at hX10_46
  simp only at hX10_41
  simp only at hX46_41
  have g11 := H1 11 _ rfl
  obtain ⟨⟨_, hv11, hb11, _, _⟩, hi11, hB11⟩ := g11; subst hv11; have hlb11 := hB11.lt
  have g10 := H1 10 _ rfl
  obtain ⟨⟨_, hv10, hb10, _, _⟩, hi10, hB10⟩ := g10; subst hv10; have hlb10 := hB10.lt
  have g46 := H1 46 _ rfl
  obtain ⟨hI46a, sD, nD, cD, stD, ctD, rfl, rfl, hMg, hTg⟩ := g46
  have hMZ1 : MZ (Iv I46.1 I46.2) w11 sD (stN x (i + 1)) := ⟨hMg, fun k hk => by have h9 := hk.2; omega⟩
  have hinc1 := fun (k : Nat) (hk : zz zn (Iv I46.1 I46.2) k) => (Or.inr (by have h9 : I46.1 ≤ k := hk.1; omega) : zz zn TT1_1 k ∨ w10.heap.size ≤ k)
  have tg5 : ∀ k, zz zn (Iv I46.1 I46.2) k → w0.heap.size ≤ k := fun k hk => (hinc1 k hk).elim (tg1L_1 k) (fun h => by omega)
  have tn5_1 : ∀ k, zz zn (Iv I46.1 I46.2) k → k ≠ b1 := fun k hk => (hinc1 k hk).elim (tn1L_1_1 k) (fun h => by have h9 : I46.1 ≤ k ∧ k < I46.2 := hk; have := (BL1_1).lt; omega)
  have tn5_2 : ∀ k, zz zn (Iv I46.1 I46.2) k → k ≠ b2 := fun k hk => (hinc1 k hk).elim (tn1L_1_2 k) (fun h => by have h9 : I46.1 ≤ k ∧ k < I46.2 := hk; have := (BL1_2).lt; omega)
  have tt5_2 : ∀ k, zz zn (Iv I46.1 I46.2) k → zz zn TT1_2 k → False := fun k hk h2 => (hinc1 k hk).elim (fun h => tt1L_1_2 k h h2) (fun h => by have := (tw1L_2).lt h2; omega)
  have g41 := H1 41 _ rfl
  have nb3 : ∀ k, zz zn (Iv I46.1 I46.2) k → k ≠ I11.1 := fun k hk => by have h9 : I46.1 ≤ k ∧ k < I46.2 := hk; have := (hMZ1).lt hk; omega
  have nb4 : ∀ k, zz zn TT1_2 k → k ≠ I11.1 := fun k hk => by have := (tw1L_2).lt hk; omega
  have nb5 : ∀ k, zz zn (Iv I46.1 I46.2) k → k ≠ I10.1 := fun k hk => by have h9 : I46.1 ≤ k ∧ k < I46.2 := hk; have := (hMZ1).lt hk; omega
  have nb6 : ∀ k, zz zn TT1_2 k → k ≠ I10.1 := fun k hk => by have := (tw1L_2).lt hk; omega
  refine lx_value (want rfl) (as_int rfl) ?_
  refine lx_nil ?_
  refine wk_seq ?_
  refine wk_region ?_
  refine lx_value (want rfl) (rn_loadBlk ag_24 sz_24 (A1.at 3 rfl rfl) (BL1_1.ext E7) rfl rfl) ?_
  refine lx_call (want rfl) (ent_func cf_20 (argsC (t_agg rfl) args0)) (((copy_ct (stN x i) sq cq _ (stN_Bm x i) w11 (hMold.fr (st_stab _) (Fr.ext (Fr.refl no w10) E7) (fun _ _ h => h))).mono (fun _ _ h => h) (fun _ _ _ h => h.read))) ?_
  rintro _ w12 E8 ⟨sC1, cC1, rfl, hMC1⟩
  have F12 := F11.ext E8
  have hz8 := E8.size
  refine lx_value (want rfl) (mv_slice (A1.at 5 rfl rfl)) ?_
  refine lx_call (want rfl) (ent_func cf_30 (argsC (t_agg rfl) (argsC (t_slice rfl) args0))) ((draw_lit (stN_draw x i) (pDraw_ct (stN x i) sC1 cC1 _ (stN_Bm x i) L4 _ 4 _ (by decide) w12 (hMC1.fr (st_stab _) (Fr.refl no w12) (fun k hk h => by have hk1 := hk.1; have hk2 := hk.2; (try dsimp only at h hk1 hk2); first | exact h.elim | omega | (rcases (show _ ∨ _ from h) with h | h <;> omega))) (vl_blk L4 (by decide) ((BL1_2.ext E7).ext E8))))) ?_
  rintro _ w13 E9 ⟨_, rfl, sV1, cV1, sK1, cK1, rfl, hPv1, hPc1⟩
  have F13 := F12.ext E9
  have hz9 := E9.size
  refine lx_value (want rfl) (mv_tuple rfl) ?_
  refine lx_value (want rfl) (rn_extract rfl rfl) ?_
  refine lx_value (want rfl) (rn_extract rfl rfl) ?_
  refine lx_new (want rfl) (rn_alloc ze_45) ?_
  intro b3 w14 hb3 Eb3 B3 hlb3
  have F14 := F13.ext Eb3
  have hzb3 := Eb3.size
  have nb7 : ∀ k, zz zn (Iv I46.1 I46.2) k → k ≠ b3 := fun k hk => by have := (hMZ1).lt hk; omega
  have nb8 : ∀ k, zz zn TT1_2 k → k ≠ b3 := fun k hk => by have := (tw1L_2).lt hk; omega
  refine lx_set (want rfl) sz_45 rfl (t_agg rfl) rfl rfl rfl B3 (Nat.le_of_ble_eq_true rfl) ?_
  intro w15 Es2 Bs2
  have F15 := F14.set Es2 (by omega)
  have hzs2 := Es2.size
  refine lx_value (want rfl) (as_int rfl) ?_
  refine lx_nil ?_
  refine wk_seq ?_
  refine wk_region ?_
  refine lx_value (want rfl) (rn_loadBlk ag_24 sz_24 rfl ((((hB10.ext E8).ext E9).ext Eb3).ne Es2 (by omega)) rfl rfl) ?_
  refine lx_call (want rfl) (ent_func cf_20 (argsC (t_agg rfl) args0)) (((copy_ct (stN x (i + 1)) sD cD _ (stN_Bm x (i + 1)) w15 (hMg.fr (st_stab _) (Fr.trans (Fr.ext (Fr.ext (Fr.ext (Fr.refl (fun k => k = b3) w11) E8) E9) Eb3) Es2 (fun k _ h => h)) (fun k hk h => by have hk1 := hk.1; have hk2 := hk.2; (try dsimp only at h hk1 hk2); first | exact h.elim | omega | (rcases (show _ ∨ _ from h) with h | h <;> omega)))).mono (fun _ _ h => h) (fun _ _ _ h => h.read))) ?_
  rintro _ w16 E10 ⟨sC2, cC2, rfl, hMC2⟩
  have F16 := F15.ext E10
  have hz10 := E10.size
  refine lx_value (want rfl) (mv_slice (A1.at 5 rfl rfl)) ?_
  refine lx_call (want rfl) (ent_func cf_30 (argsC (t_agg rfl) (argsC (t_slice rfl) args0))) ((draw_lit (stN_draw x (i + 1)) (pDraw_ct (stN x (i + 1)) sC2 cC2 _ (stN_Bm x (i + 1)) L4 _ 4 _ (by decide) w16 (hMC2.fr (st_stab _) (Fr.refl no w16) (fun k hk h => by have hk1 := hk.1; have hk2 := hk.2; (try dsimp only at h hk1 hk2); first | exact h.elim | omega | (rcases (show _ ∨ _ from h) with h | h <;> omega))) (vl_blk L4 (by decide) ((((((BL1_2.ext E7).ext E8).ext E9).ext Eb3).ne Es2 (by omega)).ext E10))))) ?_
  rintro _ w17 E11 ⟨_, rfl, sV2, cV2, sK2, cK2, rfl, hPv2, hPc2⟩
  have F17 := F16.ext E11
  have hz11 := E11.size
  refine lx_value (want rfl) (mv_tuple rfl) ?_
  refine lx_value (want rfl) (rn_extract rfl rfl) ?_
  refine lx_value (want rfl) (rn_extract rfl rfl) ?_
  refine lx_new (want rfl) (rn_alloc ze_45) ?_
  intro b4 w18 hb4 Eb4 B4 hlb4
  have F18 := F17.ext Eb4
  have hzb4 := Eb4.size
  have nb9 : ∀ k, zz zn (Iv I46.1 I46.2) k → k ≠ b4 := fun k hk => by have := (hMZ1).lt hk; omega
  have nb10 : ∀ k, zz zn TT1_2 k → k ≠ b4 := fun k hk => by have := (tw1L_2).lt hk; omega
  refine lx_set (want rfl) sz_45 rfl (t_agg rfl) rfl rfl rfl B4 (Nat.le_of_ble_eq_true rfl) ?_
  intro w19 Es3 Bs3
  have F19 := F18.set Es3 (by omega)
  have hzs3 := Es3.size
  refine lx_value (want rfl) (as_int rfl) ?_
  refine lx_nil ?_
  refine wk_seq ?_
  have a1 := (hPv1.fr (vl_stab _) (Fr.trans (Fr.ext (Fr.ext (Fr.ext (Fr.trans (Fr.ext (Fr.refl (fun k => k = b3 ∨ k = b4) w13) Eb3) Es2 (fun k _ h => (.inl h))) E10) E11) Eb4) Es3 (fun k _ h => (.inr h))) (fun k hk h => by have hk1 := hk.1; have hk2 := hk.2; (try dsimp only at h hk1 hk2); first | exact h.elim | omega | (rcases (show _ ∨ _ from h) with h | h <;> omega)))
  have a2 := (hPc1.fr (vv_stab _) (Fr.trans (Fr.ext (Fr.ext (Fr.ext (Fr.trans (Fr.ext (Fr.refl (fun k => k = b3 ∨ k = b4) w13) Eb3) Es2 (fun k _ h => (.inl h))) E10) E11) Eb4) Es3 (fun k _ h => (.inr h))) (fun k hk h => by have hk1 := hk.1; have hk2 := hk.2; (try dsimp only at h hk1 hk2); first | exact h.elim | omega | (rcases (show _ ∨ _ from h) with h | h <;> omega)))
  have a3 := (hPv2.fr (vl_stab _) (Fr.trans (Fr.ext (Fr.refl (fun k => k = b4) w17) Eb4) Es3 (fun k _ h => h)) (fun k hk h => by have hk1 := hk.1; have hk2 := hk.2; (try dsimp only at h hk1 hk2); first | exact h.elim | omega | (rcases (show _ ∨ _ from h) with h | h <;> omega)))
  have a4 := (hPc2.fr (vv_stab _) (Fr.trans (Fr.ext (Fr.refl (fun k => k = b4) w17) Eb4) Es3 (fun k _ h => h)) (fun k hk h => by have hk1 := hk.1; have hk2 := hk.2; (try dsimp only at h hk1 hk2); first | exact h.elim | omega | (rcases (show _ ∨ _ from h) with h | h <;> omega)))
  refine wk_mix 9 (fun kS => match kS with | 1 => .any (fun I v w => PicI I w v (picS x i)) | 3 => .any (fun I v w => PicI I w v (picS x (i + 1))) | 4 => .val (.tuple #[.bool true, .int .i64 0]) | _ => .none) (by kernel_rfl) (by kernel_rfl) (by intro kS G hk; (try dsimp only at hk); (split at hk) <;> first | (cases hk; done) | (injection hk with hk; subst hk; exact ⟨by intro j hkj I v w w' hR hG; first | exact hG | (exact hG.fr hR (fun _ _ h => h)) | (exact hG.fr hR (fun _ _ h => h)), fun ⟨_, _, _, _, hs⟩ => by (try dsimp only at hs); split at hs <;> cases hs⟩)) (by intro kS s y G hk; (try dsimp only at hk); split at hk <;> cases hk) ?_
  simp only [List.take_succ_cons, List.take_zero, List.take_nil, List.drop_succ_cons, List.drop_zero, List.drop_nil]
  refine mx_calm rfl (want rfl) (fun u18 eu18 fu18 => rn_loadBlk ag_45 sz_45 rfl (((((Bs2.ext E10).ext E11).ext Eb4).ne Es3 (by omega)).ext ((ext_drawn _).trans' eu18)) rfl rfl) ?_
  refine mx_any rfl rfl (want rfl) (fun u19 eu19 fu19 => do_call (ent_func cf_29 (argsC (t_agg rfl) args0)) (copypic_ct (picS x i) sV1 cV1 sK1 cK1 _ (picS_Bp x i) u19 (a1.fr (vl_stab _) ((ext_drawn _).trans' eu19) (fun _ _ h => h)) (a2.fr (vv_stab _) ((ext_drawn _).trans' eu19) (fun _ _ h => h))) (fun v w' E h => ⟨E, h⟩)) (fun I67 v67 => ?_)
  refine mx_calm rfl (want rfl) (fun u20 eu20 fu20 => rn_loadBlk ag_45 sz_45 rfl (Bs3.ext ((ext_drawn _).trans' eu20)) rfl rfl) ?_
  refine mx_any rfl rfl (want rfl) (fun u21 eu21 fu21 => do_call (ent_func cf_29 (argsC (t_agg rfl) args0)) (copypic_ct (picS x (i + 1)) sV2 cV2 sK2 cK2 _ (picS_Bp x (i + 1)) u21 (a3.fr (vl_stab _) ((ext_drawn _).trans' eu21) (fun _ _ h => h)) (a4.fr (vv_stab _) ((ext_drawn _).trans' eu21) (fun _ _ h => h))) (fun v w' E h => ⟨E, h⟩)) (fun I69 v69 => ?_)
  refine mx_val rfl (want rfl) (fun u22 eu22 fu22 => by obtain ⟨e1, e2, e3, e4, rfl, e5, e6⟩ := fu22 67 _ rfl (show (67 : Nat) ∈ _ from by decide); obtain ⟨d1, d2, d3, d4, rfl, d5, d6⟩ := fu22 69 _ rfl (show (69 : Nat) ∈ _ from by decide); exact do_call (ent_func cf_57 (argsC (t_agg rfl) (argsC (t_agg rfl) args0))) (pBelow_ct (picS x i) e1 e2 e3 e4 _ (picS_Bp x i) (picS x (i + 1)) d1 d2 d3 d4 _ (picS_Bp x (i + 1)) u22 e5 e6 d5 d6) (fun _ _ E h => ⟨E, (by rw [picS_le ho] at h; exact h)⟩)) ?_
  refine mx_calm rfl (want rfl) (fun u23 eu23 fu23 => mv_tuple rfl) ?_
  refine mx_calm rfl (want rfl) (fun u24 eu24 fu24 => rn_extract rfl rfl) ?_
  refine mx_b_t (rfl) ?_
  refine mx_calm rfl (want rfl) (fun u25 eu25 fu25 => rn_extract rfl rfl) ?_
  refine mx_calm rfl (want rfl) (fun u26 eu26 fu26 => as_bool rfl) ?_
  refine mx_nil (fun w20 E12' H2 HS => ?_)
  have E12 := (ext_drawn _).trans' E12'
  have F20 := F19.ext E12
  have hz12 := E12.size
  have hI69 := (HS.1 69 _ rfl).2
  have hI67 := (HS.1 67 _ rfl).2
  have hX69_67 := HS.2 69 _ 67 _ rfl rfl (show (69 : Nat) ≠ 67 from by decide)
  simp only at hI69
  simp only at hI67
  simp only at hX69_67
  have g69 := H2 69 _ rfl
  have g67 := H2 67 _ rfl
  refine lx_value (want rfl) (as_int rfl) ?_
  refine lx_nil ?_
  refine wk_seq ?_
  refine wk_seq ?_
  refine wk_region ?_
  refine lx_value (want rfl) (mv_int rfl) ?_
  refine lx_value (want rfl) (rn_neq rfl rfl) ?_
  refine lx_dec_f ((fun h => h rfl)) ?_
  refine lx_value (want rfl) (mv_bool rfl) ?_
  refine lx_value (want_if (j := 2) (d := 75) (x := false) (y := false) rfl rfl (by decide) rfl) (mv_int rfl) ?_
  refine lx_value (want_if (j := 2) (d := 75) (x := false) (y := false) rfl rfl (by decide) rfl) (rn_neq rfl rfl) ?_
  refine lx_dec_f ((fun h => h rfl)) ?_
  refine lx_value (want rfl) (pick_f rfl rfl) ?_
  refine lx_value (want rfl) (mv_bool rfl) ?_
  refine lx_value (want_if (j := 6) (d := 79) (x := false) (y := false) rfl rfl (by decide) rfl) (mv_int rfl) ?_
  refine lx_value (want_if (j := 6) (d := 79) (x := false) (y := false) rfl rfl (by decide) rfl) (rn_neq rfl rfl) ?_
  refine lx_dec_f ((fun h => h rfl)) ?_
  refine lx_value (want rfl) (pick_f rfl rfl) ?_
  refine lx_value (want rfl) (mv_bool rfl) ?_
  refine lx_value (want_if (j := 10) (d := 83) (x := false) (y := false) rfl rfl (by decide) rfl) (mv_int rfl) ?_
  refine lx_value (want_if (j := 10) (d := 83) (x := false) (y := false) rfl rfl (by decide) rfl) (rn_neq rfl rfl) ?_
  refine lx_dec_f ((fun h => h rfl)) ?_
  refine lx_value (want rfl) (pick_f rfl rfl) ?_
  refine lx_value (want rfl) (mv_bool rfl) ?_
  refine lx_value (want_if (j := 14) (d := 87) (x := false) (y := false) rfl rfl (by decide) rfl) (mv_bool rfl) ?_
  refine lx_value (want_if (j := 14) (d := 87) (x := false) (y := false) rfl rfl (by decide) rfl) (rn_not rfl) ?_
  refine lx_value (want rfl) (pick_f rfl rfl) ?_
  refine lx_nil ?_
  refine wk_cond_f rfl ?_
  refine wk_skip ?_
  refine wk_seq ?_
  refine wk_seq ?_
  refine wk_region ?_
  refine lx_value (want rfl) (mv_slice (A1.at 6 rfl rfl)) ?_
  refine lx_value (want rfl) (mv_int hs1_9) ?_
  refine lx_value (want rfl) (rn_index i Tryz.underlying25 sz_38 rfl rfl rfl (by omega)) ?_
  refine lx_value (want rfl) (rn_fieldAddr fa_38_0 rfl) ?_
  refine lx_value (want rfl) (rn_load1 ag_5 rfl ((Fr.ext (Fr.trans (Fr.ext (Fr.ext (Fr.ext (Fr.trans (Fr.ext (Fr.ext (Fr.ext (Fr.ext (Fr.refl (fun k => k = b3 ∨ k = b4) w10) E7) E8) E9) Eb3) Es2 (fun k _ h => (.inl h))) E10) E11) Eb4) Es3 (fun k _ h => (.inr h))) E12).cell (fun h => by (try dsimp only at h); omega) (hco 0 _ rfl))) ?_
  refine lx_value (want rfl) (rn_eql rfl rfl) ?_
  refine lx_dec (fun h3 => ?_) (fun h3 => ?_)
  ·
   have hrd2 := rd_3 ho h3
   refine lx_nil ?_
   refine wk_cond_t rfl ?_
   refine wk_seq ?_
   refine wk_region ?_
   refine lx_value (want rfl) (mv_int hs1_7) ?_
   refine lx_value (v := .int .i64 ((rdN x i + 1 : Nat) : Int)) (want rfl) ((rn_addN (n := 1) rfl rfl (by omega))) ?_
   refine lx_value (want rfl) (as_int rfl) ?_
   refine lx_nil ?_
   refine wk_seq ?_
   refine wk_region ?_
   refine lx_value (want rfl) (rn_fieldAddr fa_36_0 rfl) ?_
   refine lx_value (want rfl) (rn_load1Blk ag_5 rfl (((((((((hB11.ext E8).ext E9).ext Eb3).ne Es2 (by omega)).ext E10).ext E11).ext Eb4).ne Es3 (by omega)).ext E12) rfl) ?_
   refine lx_value (want rfl) (rn_neq rfl rfl) ?_
   refine lx_dec (fun h0 => ?_) (fun h0 => ?_)
   ·
    have hhe2 := he_3y ho h3 h0
    refine lx_nil ?_
    refine wk_cond_t rfl ?_
    refine wk_region ?_
    refine lx_value (want rfl) (mv_int hs1_8) ?_
    refine lx_value (v := .int .i64 ((heN x i + 1 : Nat) : Int)) (want rfl) ((rn_addN (n := 1) rfl rfl (by omega))) ?_
    refine lx_value (want rfl) (as_int rfl) ?_
    refine lx_nil ?_
    refine wk_seq ?_
    refine wk_region ?_
    refine lx_value (want rfl) (mv_int rfl) ?_
    refine lx_value (want rfl) (mv_slice rfl) ?_
    refine lx_value (want rfl) (rn_len Tryz.underlying31 rfl) ?_
    refine lx_value (want rfl) (rn_addN rfl rfl (by omega)) ?_
    refine lx_value (want rfl) (as_int rfl) ?_
    refine lx_nil ?_
    refine wk_region ?_
    refine lx_value (want rfl) (rn_loadBlk ag_24 sz_24 rfl (((((((((hB10.ext E8).ext E9).ext Eb3).ne Es2 (by omega)).ext E10).ext E11).ext Eb4).ne Es3 (by omega)).ext E12) rfl rfl) ?_
    refine lx_set (want rfl) sz_24 (A1.at 3 rfl rfl) (t_agg rfl) rfl rfl rfl ((((((((((BL1_1.ext E7).ext E8).ext E9).ext Eb3).ne Es2 (by omega)).ext E10).ext E11).ext Eb4).ne Es3 (by omega)).ext E12) (Nat.le_of_ble_eq_true rfl) ?_
    intro w21 Es4 Bs4
    have F21 := F20.set Es4 (by omega)
    have hzs4 := Es4.size
    refine lx_nil ?_
    refine wk_region ?_
    refine lx_value (want rfl) (mv_int hs1_9) ?_
    refine lx_value (want rfl) (rn_add rfl rfl (by omega)) ?_
    refine lx_value (want rfl) (as_int rfl) ?_
    refine lx_nil ?_
    exact ⟨rfl, (((((((((((((((((((((((((((((((((((((((((((((((((((((((((((((((((((((((((((((((((((((((((((((((A1.up rfl _).up rfl _).up rfl _).up rfl _).up rfl _).up rfl _).up rfl _).up rfl _).up rfl _).up rfl _).up rfl _).up rfl _).up rfl _).up rfl _).up rfl _).up rfl _).up rfl _).up rfl _).none _).none _).up rfl _).up rfl _).up rfl _).up rfl _).up rfl _).up rfl _).up rfl _).up rfl _).up rfl _).up rfl _).none _).up rfl _).up rfl _).up rfl _).up rfl _).up rfl _).up rfl _).up rfl _).up rfl _).up rfl _).none _).up rfl _).up rfl _).up rfl _).up rfl _).up rfl _).up rfl _).up rfl _).up rfl _).up rfl _).up rfl _).up rfl _).up rfl _).up rfl _).up rfl _).up rfl _).up rfl _).up rfl _).up rfl _).up rfl _).up rfl _).up rfl _).up rfl _).up rfl _).up rfl _).up rfl _).up rfl _).up rfl _).up rfl _).up rfl _).up rfl _).up rfl _).up rfl _).up rfl _).up rfl _).up rfl _).up rfl _).up rfl _).up rfl _).up rfl _).up rfl _).up rfl _).up rfl _).up rfl _).up rfl _).up rfl _).up rfl _).up rfl _).up rfl _).up rfl _).up rfl _).none _).up rfl _).up rfl _).up rfl _), Fr.between F9 F21 (by omega), _, (by omega), i + 1, sD, cD, (Iv I46.1 I46.2), TT1_2, rfl, rfl, (by rw [hrd2]; exact rfl), (by rw [hhe2]; exact rfl), (by first | exact Bs4 | (rw [stN_len]; exact Bs4)), (((((((((((BL1_2.ext E7).ext E8).ext E9).ext Eb3).ne Es2 (by omega)).ext E10).ext E11).ext Eb4).ne Es3 (by omega)).ext E12).ne Es4 (by omega)), ((((((((((hMZ1.ext E8).ext E9).ext Eb3).fr Es2 (fun k hk h => nb7 k hk h)).ext E10).ext E11).ext Eb4).fr Es3 (fun k hk h => nb9 k hk h)).ext E12).fr Es4 (fun k hk h => tn5_1 k hk h)), tg5, tn5_1, tn5_2, (((((((((((tw1L_2.ext E7).ext E8).ext E9).ext Eb3).fr Es2 (fun k hk h => nb8 k hk h)).ext E10).ext E11).ext Eb4).fr Es3 (fun k hk h => nb10 k hk h)).ext E12).fr Es4 (fun k hk h => tn1L_2_1 k hk h)), tg1L_2, tn1L_2_1, tn1L_2_2, tt5_2, by omega⟩
   ·
    have hhe2 := he_3n ho h3 (Decidable.not_not.1 h0)
    refine lx_nil ?_
    refine wk_cond_f rfl ?_
    refine wk_skip ?_
    refine wk_seq ?_
    refine wk_region ?_
    refine lx_value (want rfl) (mv_int hs1_8) ?_
    refine lx_value (want rfl) (mv_slice rfl) ?_
    refine lx_value (want rfl) (rn_len Tryz.underlying31 rfl) ?_
    refine lx_value (want rfl) (rn_addN rfl rfl (by omega)) ?_
    refine lx_value (want rfl) (as_int rfl) ?_
    refine lx_nil ?_
    refine wk_region ?_
    refine lx_value (want rfl) (rn_loadBlk ag_24 sz_24 rfl (((((((((hB10.ext E8).ext E9).ext Eb3).ne Es2 (by omega)).ext E10).ext E11).ext Eb4).ne Es3 (by omega)).ext E12) rfl rfl) ?_
    refine lx_set (want rfl) sz_24 (A1.at 3 rfl rfl) (t_agg rfl) rfl rfl rfl ((((((((((BL1_1.ext E7).ext E8).ext E9).ext Eb3).ne Es2 (by omega)).ext E10).ext E11).ext Eb4).ne Es3 (by omega)).ext E12) (Nat.le_of_ble_eq_true rfl) ?_
    intro w21 Es5 Bs5
    have F22 := F20.set Es5 (by omega)
    have hzs5 := Es5.size
    refine lx_nil ?_
    refine wk_region ?_
    refine lx_value (want rfl) (mv_int hs1_9) ?_
    refine lx_value (want rfl) (rn_add rfl rfl (by omega)) ?_
    refine lx_value (want rfl) (as_int rfl) ?_
    refine lx_nil ?_
    exact ⟨rfl, ((((((((((((((((((((((((((((((((((((((((((((((((((((((((((((((((((((((((((((((((((((((((((((A1.up rfl _).up rfl _).up rfl _).up rfl _).up rfl _).up rfl _).up rfl _).up rfl _).up rfl _).up rfl _).up rfl _).up rfl _).up rfl _).up rfl _).up rfl _).up rfl _).up rfl _).up rfl _).none _).none _).up rfl _).up rfl _).up rfl _).up rfl _).up rfl _).up rfl _).up rfl _).up rfl _).up rfl _).up rfl _).none _).up rfl _).up rfl _).up rfl _).up rfl _).up rfl _).up rfl _).up rfl _).up rfl _).up rfl _).none _).up rfl _).up rfl _).up rfl _).up rfl _).up rfl _).up rfl _).up rfl _).up rfl _).up rfl _).up rfl _).up rfl _).up rfl _).up rfl _).up rfl _).up rfl _).up rfl _).up rfl _).up rfl _).up rfl _).up rfl _).up rfl _).up rfl _).up rfl _).up rfl _).up rfl _).up rfl _).up rfl _).up rfl _).up rfl _).up rfl _).up rfl _).up rfl _).up rfl _).up rfl _).up rfl _).up rfl _).up rfl _).up rfl _).up rfl _).up rfl _).up rfl _).up rfl _).up rfl _).up rfl _).up rfl _).up rfl _).up rfl _).none _).up rfl _).up rfl _).up rfl _), Fr.between F9 F22 (by omega), _, (by omega), i + 1, sD, cD, (Iv I46.1 I46.2), TT1_2, rfl, rfl, (by rw [hrd2]; exact rfl), (by rw [hhe2]; exact rfl), (by first | exact Bs5 | (rw [stN_len]; exact Bs5)), (((((((((((BL1_2.ext E7).ext E8).ext E9).ext Eb3).ne Es2 (by omega)).ext E10).ext E11).ext Eb4).ne Es3 (by omega)).ext E12).ne Es5 (by omega)), ((((((((((hMZ1.ext E8).ext E9).ext Eb3).fr Es2 (fun k hk h => nb7 k hk h)).ext E10).ext E11).ext Eb4).fr Es3 (fun k hk h => nb9 k hk h)).ext E12).fr Es5 (fun k hk h => tn5_1 k hk h)), tg5, tn5_1, tn5_2, (((((((((((tw1L_2.ext E7).ext E8).ext E9).ext Eb3).fr Es2 (fun k hk h => nb8 k hk h)).ext E10).ext E11).ext Eb4).fr Es3 (fun k hk h => nb10 k hk h)).ext E12).fr Es5 (fun k hk h => tn1L_2_1 k hk h)), tg1L_2, tn1L_2_1, tn1L_2_2, tt5_2, by omega⟩
  ·
   have hrd2 := rd_not ho h3
   have hhe2 := he_no ho h3
   refine lx_nil ?_
   refine wk_cond_f rfl ?_
   refine wk_skip ?_
   refine wk_seq ?_
   refine wk_region ?_
   refine lx_value (want rfl) (mv_int hs1_8) ?_
   refine lx_value (want rfl) (mv_slice rfl) ?_
   refine lx_value (want rfl) (rn_len Tryz.underlying31 rfl) ?_
   refine lx_value (want rfl) (rn_addN rfl rfl (by omega)) ?_
   refine lx_value (want rfl) (as_int rfl) ?_
   refine lx_nil ?_
   refine wk_region ?_
   refine lx_value (want rfl) (rn_loadBlk ag_24 sz_24 rfl (((((((((hB10.ext E8).ext E9).ext Eb3).ne Es2 (by omega)).ext E10).ext E11).ext Eb4).ne Es3 (by omega)).ext E12) rfl rfl) ?_
   refine lx_set (want rfl) sz_24 (A1.at 3 rfl rfl) (t_agg rfl) rfl rfl rfl ((((((((((BL1_1.ext E7).ext E8).ext E9).ext Eb3).ne Es2 (by omega)).ext E10).ext E11).ext Eb4).ne Es3 (by omega)).ext E12) (Nat.le_of_ble_eq_true rfl) ?_
   intro w21 Es6 Bs6
   have F23 := F20.set Es6 (by omega)
   have hzs6 := Es6.size
   refine lx_nil ?_
   refine wk_region ?_
   refine lx_value (want rfl) (mv_int hs1_9) ?_
   refine lx_value (want rfl) (rn_add rfl rfl (by omega)) ?_
   refine lx_value (want rfl) (as_int rfl) ?_
   refine lx_nil ?_
   exact ⟨rfl, ((((((((((((((((((((((((((((((((((((((((((((((((((((((((((((((((((((((((((((((((((((((A1.up rfl _).up rfl _).up rfl _).up rfl _).up rfl _).up rfl _).up rfl _).up rfl _).up rfl _).up rfl _).up rfl _).up rfl _).up rfl _).up rfl _).up rfl _).up rfl _).up rfl _).up rfl _).none _).none _).up rfl _).up rfl _).up rfl _).up rfl _).up rfl _).up rfl _).up rfl _).up rfl _).up rfl _).up rfl _).none _).up rfl _).up rfl _).up rfl _).up rfl _).up rfl _).up rfl _).up rfl _).up rfl _).up rfl _).none _).up rfl _).up rfl _).up rfl _).up rfl _).up rfl _).up rfl _).up rfl _).up rfl _).up rfl _).up rfl _).up rfl _).up rfl _).up rfl _).up rfl _).up rfl _).up rfl _).up rfl _).up rfl _).up rfl _).up rfl _).up rfl _).up rfl _).up rfl _).up rfl _).up rfl _).up rfl _).up rfl _).up rfl _).up rfl _).up rfl _).up rfl _).up rfl _).up rfl _).up rfl _).up rfl _).up rfl _).up rfl _).up rfl _).up rfl _).up rfl _).up rfl _).none _).up rfl _).up rfl _).up rfl _), Fr.between F9 F23 (by omega), _, (by omega), i + 1, sD, cD, (Iv I46.1 I46.2), TT1_2, rfl, rfl, (by rw [hrd2]; exact hs1_7), (by rw [hhe2]; exact rfl), (by first | exact Bs6 | (rw [stN_len]; exact Bs6)), (((((((((((BL1_2.ext E7).ext E8).ext E9).ext Eb3).ne Es2 (by omega)).ext E10).ext E11).ext Eb4).ne Es3 (by omega)).ext E12).ne Es6 (by omega)), ((((((((((hMZ1.ext E8).ext E9).ext Eb3).fr Es2 (fun k hk h => nb7 k hk h)).ext E10).ext E11).ext Eb4).fr Es3 (fun k hk h => nb9 k hk h)).ext E12).fr Es6 (fun k hk h => tn5_1 k hk h)), tg5, tn5_1, tn5_2, (((((((((((tw1L_2.ext E7).ext E8).ext E9).ext Eb3).fr Es2 (fun k hk h => nb8 k hk h)).ext E10).ext E11).ext Eb4).fr Es3 (fun k hk h => nb10 k hk h)).ext E12).fr Es6 (fun k hk h => tn1L_2_1 k hk h)), tg1L_2, tn1L_2_1, tn1L_2_2, tt5_2, by omega⟩
 ·
  refine lx_nil ?_
  refine wk_cond_f rfl ?_
  refine wk_exit ?_
  refine wk_seq ?_
  refine wk_region ?_
  refine lx_value (want rfl) (mv_int hs1_7) ?_
  refine lx_value (want rfl) (mv_int hs1_8) ?_
  refine lx_value (want rfl) (rn_loadBlk ag_24 sz_24 (A1.at 3 rfl rfl) BL1_1 rfl rfl) ?_
  refine lx_call (want rfl) (ent_func cf_62 (argsC (t_agg rfl) args0)) (reads_ct (stN x i) sq cq _ (stN_Bm x i) w10 (tw1L_1).1) ?_
  rintro _ w11 E13 rfl
  have F24 := F10.ext E13
  have hz13 := E13.size
  refine lx_value (want rfl) (rn_addN rfl rfl (by have := he_le x i; have := stN_waits x i; omega)) ?_
  refine lx_value (want rfl) (rn_eql rfl rfl) ?_
  refine lx_dec_t ((by have := rd_wait x i; unfold heN; omega)) ?_
  refine lx_value (want rfl) (mv_bool rfl) ?_
  refine lx_call (want_if (j := 6) (d := 115) (x := true) (y := true) rfl rfl (by decide) rfl) (ent_func cf_19 args0) (awake_ct w11) ?_
  rintro _ w12 E14 rfl
  have F25 := F24.ext E14
  have hz14 := E14.size
  refine lx_value (want rfl) (pick_t rfl rfl) ?_
  refine lx_value (want rfl) (as_bool rfl) ?_
  refine lx_nil ?_
  refine wk_ret ?_
  refine retR1 Tryz.results14 (.tmp (t_bool rfl)) F25 ?_
  exact rfl

end Go.Proofs.YtnhgfmbmfjmonaaGreatDoor

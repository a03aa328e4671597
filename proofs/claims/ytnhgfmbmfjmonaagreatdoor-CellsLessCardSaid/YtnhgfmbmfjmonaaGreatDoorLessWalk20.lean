/- What functions compute: masked. -/
import Derived.Test.YtnhgfmbmfjmonaaGreatDoorLessFacts
import Derived.Test.YtnhgfmbmfjmonaaGreatDoorLessPre
import Derived.Test.YtnhgfmbmfjmonaaGreatDoorLessWalk16
import Derived.Test.YtnhgfmbmfjmonaaGreatDoorLessWalk18
import Derived.Test.YtnhgfmbmfjmonaaGreatDoorLessWalk2
import Derived.Test.YtnhgfmbmfjmonaaGreatDoorLessWalk6
set_option maxRecDepth 100000
set_option linter.unusedVariables false
set_option linter.unusedSimpArgs false
namespace Go.Proofs.YtnhgfmbmfjmonaaGreatDoor
open Go Go.RowKit Go.Mix Go.Eng
set_option maxHeartbeats 4000000 in
set_option maxRecDepth 100000 in
theorem masked_ct (p : Pic) (sv : Option Addr) (cv : Nat) (sk : Option Addr) (ck : Nat) (G : Nat → Prop) (hBp : Bp p) (hp : isPicB p = true) (bits : Nat) (w0 : World) (hv : VlS G w0 sv p.1) (hk : VvS G w0 sk p.2) :
  CT Tryz.prog 60 [.agg #[.slice sv p.1.length cv, .slice sk p.2.length ck], .int .u32 (bits : Nat)] w0 no (fun v w => ∃ pv, v = .tuple #[pv, .bool true] ∧ PicR w0.heap.size w pv (drawP (mskA bits 0 p.2) p.1)) := by
 have hBm := memC_Bm hBp.2.1 hBp.2.2
 have hB1 := hBp.1
 have hBu : Bm (memC (mskA bits 0 p.2)) := memC_Bm (by rw [mskA_len]; exact hBp.2.1) (msk_bd hBp.2.2)
 have h400 : p.2.length ≤ 400 := by have := (okM_iff.1 (isPic_parts hp).1).1; rwa [memC_len] at this
 have hsum := fun (i : Nat) => sumL_le (A := p.2.take i) (fun l hl => (isPic_cells hp (List.mem_of_mem_take hl)).1)
 have F0 := Fr.refl no w0
 refine ct_body Tryz.func60 rfl Tryz.ntmps60 (Nat.le_of_ble_eq_true rfl) ?_
 refine wk_seq ?_
 refine wk_region ?_
 refine lx_new (want rfl) (rn_box (t_agg rfl)) ?_
 intro b1 w1 hb1 Eb1 B1 hlb1
 have F1 := F0.ext Eb1
 have hzb1 := Eb1.size
 refine lx_new (want rfl) (rn_alloc ze_45) ?_
 intro b2 w2 hb2 Eb2 B2 hlb2
 have F2 := F1.ext Eb2
 have hzb2 := Eb2.size
 refine lx_value (want rfl) (as_bool rfl) ?_
 refine lx_nil ?_
 refine wk_seq ?_
 refine wk_region ?_
 refine lx_value (want rfl) (rn_loadBlk ag_45 sz_45 rfl (B1.ext Eb2) rfl rfl) ?_
 refine lx_call (want rfl) (ent_func cf_29 (argsC (t_agg rfl) args0)) (copypic_ct p sv cv sk ck G hBp w2 (hv.fr (vl_stab _) F2 (fun _ _ h => h)) (hk.fr (vv_stab _) F2 (fun _ _ h => h))) ?_
 rintro _ w3 E1 ⟨sA, cA, sB, cB, rfl, hPV, hPC⟩
 have F3 := F2.ext E1
 have hz1 := E1.size
 refine lx_call (want rfl) (ent_func cf_40 (argsC (t_agg rfl) args0)) ((mem_lit (memE_in hp) (pmemory_ct p sA cA sB cB _ hBp w3 hPV hPC))) ?_
 rintro _ w4 E2 ⟨mv, rfl, sM, cM, rfl, hMM⟩
 have F4 := F3.ext E2
 have hz2 := E2.size
 refine lx_value (want rfl) (mv_tuple rfl) ?_
 refine lx_value (want rfl) (rn_extract rfl rfl) ?_
 refine lx_value (want rfl) (rn_extract rfl rfl) ?_
 refine lx_new (want rfl) (rn_alloc ze_24) ?_
 intro b3 w5 hb3 Eb3 B3 hlb3
 have F5 := F4.ext Eb3
 have hzb3 := Eb3.size
 refine lx_set (want rfl) sz_24 rfl (t_agg rfl) rfl rfl rfl B3 (Nat.le_of_ble_eq_true rfl) ?_
 intro w6 Es1 Bs1
 have F6 := F5.set Es1 (by omega)
 have hzs1 := Es1.size
 refine lx_value (want rfl) (as_int rfl) ?_
 refine lx_nil ?_
 refine wk_seq ?_
 refine wk_seq ?_
 refine wk_region ?_
 refine lx_value (want rfl) (mv_int rfl) ?_
 refine lx_value (want rfl) (rn_neq rfl rfl) ?_
 refine lx_dec_f ((fun h => h rfl)) ?_
 refine lx_nil ?_
 refine wk_cond_f rfl ?_
 refine wk_skip ?_
 refine wk_seq ?_
 refine wk_region ?_
 refine lx_value (want rfl) (rn_loadBlk ag_24 sz_24 rfl Bs1 rfl rfl) ?_
 refine lx_call (want rfl) (ent_func cf_20 (argsC (t_agg rfl) args0)) (copy_ct (memC p.2) sM cM _ hBm w6 (hMM.fr (st_stab _) (Fr.trans (Fr.ext (Fr.refl (fun k => k = b3) w4) Eb3) Es1 (fun k _ h => h)) (fun k hk h => by have hk1 := hk.1; have hk2 := hk.2; (try dsimp only at h hk1 hk2); first | exact h.elim | omega | (rcases (show _ ∨ _ from h) with h | h <;> omega)))) ?_
 rintro _ w7 E3 ⟨sT, cT, TT, rfl, hTa, hTm, hTg⟩
 have F7 := F6.ext E3
 have hz3 := E3.size
 have hTi : ∀ k, mtb sT TT k → (mtb none ([] : List (SE Vl Rd)) k ∨ w6.heap.size ≤ k) := fun k hk => .inr (hTg k hk)
 have tg2 : ∀ k, mtb sT TT k → w0.heap.size ≤ k := fun k hk => (hTi k hk).elim ((fun _ h => mtb_nil h) k) (fun h => by omega)
 have tn2_1 : ∀ k, mtb sT TT k → k ≠ b1 := fun k hk => (hTi k hk).elim ((fun _ h => mtb_nil h) k) (fun h => by have := (B1).lt; omega)
 have tn2_2 : ∀ k, mtb sT TT k → k ≠ b2 := fun k hk => (hTi k hk).elim ((fun _ h => mtb_nil h) k) (fun h => by have := (B2).lt; omega)
 have tn2_3 : ∀ k, mtb sT TT k → k ≠ b3 := fun k hk => (hTi k hk).elim ((fun _ h => mtb_nil h) k) (fun h => by have := (Bs1).lt; omega)
 refine lx_set (want rfl) sz_24 rfl (t_agg rfl) rfl rfl rfl (Bs1.ext E3) (Nat.le_of_ble_eq_true rfl) ?_
 intro w8 Es2 Bs2
 have F8 := F7.set Es2 (by omega)
 have hzs2 := Es2.size
 refine lx_nil ?_
 refine wk_seq ?_
 refine wk_region ?_
 refine lx_value (want rfl) (as_int rfl) ?_
 refine lx_nil ?_
 refine wk_seq ?_
 refine wk_seq ?_
 refine wk_region ?_
 refine lx_value (want rfl) (as_int rfl) ?_
 refine lx_nil ?_
 refine wk_block ?_
 refine wk_loopA [8, 9, 10, 24, 25, 26, 27, 28, 29, 30, 31, 32, 33, 34, 35, 36, 37, 38, 39, 40, 41, 42, 43, 44, 45, 46, 47, 48, 49, 50, 51, 52, 53, 54, 55, 56, 57, 58, 59] (fun j => no j ∨ w0.heap.size ≤ j) (fun nM ρ w => ∃ (i : Nat) (st1_1 : Option Addr) (ct1_1 : Nat) (TT1_1 : List (SE Vl Rd)), nM = p.2.length - i ∧ ρ 9 = .int .i64 i ∧ ρ 8 = .int .i64 (sumL (p.2.take i) : Nat) ∧ Blk w b1 (cellsOf B1) 45 ∧ Blk w b2 (cellsOf B2) 45 ∧ Blk w b3 [.slice st1_1 TT1_1.length ct1_1] 24 ∧ MTab w 65 36 2 vlC 115 2 rdC st1_1 ct1_1 TT1_1 ∧ (∀ k, mtb st1_1 TT1_1 k → w0.heap.size ≤ k) ∧ (∀ k, mtb st1_1 TT1_1 k → k ≠ b1) ∧ (∀ k, mtb st1_1 TT1_1 k → k ≠ b2) ∧ (∀ k, mtb st1_1 TT1_1 k → k ≠ b3) ∧ (i ≤ p.2.length) ∧ (TT1_1.map SE.abs = memC (mskU bits p.2 i))) _ ⟨0, sT, cT, TT, rfl, rfl, rfl, (((((((B1.ext Eb2).ext E1).ext E2).ext Eb3).ne Es1 (by omega)).ext E3).ne Es2 (by omega)), ((((((B2.ext E1).ext E2).ext Eb3).ne Es1 (by omega)).ext E3).ne Es2 (by omega)), Bs2, (hTm.fr Es2 (fun k hk h => tn2_3 k hk h)), tg2, tn2_1, tn2_2, tn2_3, Nat.zero_le _, hTa⟩ ?_
 rintro n1 ρ1 w9 A1 EL1 ⟨i, st1_1, ct1_1, TT1_1, rfl, hs1_9, hs1_8, BL1_1, BL1_2, BL1_3, tw1L_1, tg1L_1, tn1L_1_1, tn1L_1_2, tn1L_1_3, hi, hT⟩
 have F9 := F8.wide EL1
 have hzL1 := EL1.size
 refine wk_seq ?_
 refine wk_seq ?_
 refine wk_region ?_
 refine lx_value (want rfl) (mv_int hs1_9) ?_
 refine lx_value (want rfl) (rn_fieldAddr fa_24_0 (A1.at 6 rfl rfl)) ?_
 refine lx_value (want rfl) (rn_load1Blk ag_22 rfl BL1_3 rfl) ?_
 refine lx_value (want rfl) (rn_len Tryz.underlying22 rfl) ?_
 refine lx_value (want rfl) (rn_lss rfl rfl) ?_
 refine lx_dec (fun hlt => ?_) (fun hlt => ?_)
 ·
  have hTl : TT1_1.length = p.2.length := by have := congrArg List.length hT; rw [List.length_map, memC_len, mskU_len] at this; exact this
  rw [hTl] at hlt
  obtain ⟨l, hl⟩ := getx hlt
  have hl100 := (isPic_cells hp (List.mem_of_getElem? hl)).1
  have hs1 := hsum i
  have hs2 : (p.2.take i).length ≤ 400 := by rw [List.length_take]; omega
  refine lx_nil ?_
  refine wk_cond_t rfl ?_
  refine wk_skip ?_
  refine wk_seq ?_
  refine wk_block ?_
  refine wk_seq ?_
  refine wk_region ?_
  refine lx_value (want rfl) (as_int rfl) ?_
  refine lx_nil ?_
  refine wk_block ?_
  refine wk_loopA [8, 10, 31, 32, 33, 34, 35, 36, 37, 38, 39, 40, 41, 42, 43, 44, 45, 46, 47, 48, 49, 50, 51, 52, 53, 54, 55, 56, 57, 58, 59] (fun j => no j ∨ w0.heap.size ≤ j) (fun nM ρ w => ∃ (kk : Nat) (st2_1 : Option Addr) (ct2_1 : Nat) (TT2_1 : List (SE Vl Rd)), nM = l.length - kk ∧ ρ 10 = .int .i64 kk ∧ ρ 8 = .int .i64 ((sumL (p.2.take i) + kk : Nat) : Int) ∧ Blk w b1 (cellsOf BL1_1) 45 ∧ Blk w b2 (cellsOf BL1_2) 45 ∧ Blk w b3 [.slice st2_1 TT2_1.length ct2_1] 24 ∧ MTab w 65 36 2 vlC 115 2 rdC st2_1 ct2_1 TT2_1 ∧ (∀ k, mtb st2_1 TT2_1 k → w0.heap.size ≤ k) ∧ (∀ k, mtb st2_1 TT2_1 k → k ≠ b1) ∧ (∀ k, mtb st2_1 TT2_1 k → k ≠ b2) ∧ (∀ k, mtb st2_1 TT2_1 k → k ≠ b3) ∧ (kk ≤ l.length) ∧ (TT2_1.map SE.abs = memC ((mskU bits p.2 i).set i (mskH bits (sumL (p.2.take i)) l kk)))) _ ⟨0, st1_1, ct1_1, TT1_1, rfl, rfl, (by rw [Nat.add_zero]; exact hs1_8), BL1_1, BL1_2, (by first | exact BL1_3 | (rw [List.length_set]; exact BL1_3)), tw1L_1, tg1L_1, tn1L_1_1, tn1L_1_2, tn1L_1_3, Nat.zero_le _, msk_begin hl hT⟩ ?_
  rintro n2 ρ2 w10 A2 EL2 ⟨kk, st2_1, ct2_1, TT2_1, rfl, hs2_10, hs2_8, BL2_1, BL2_2, BL2_3, tw2L_1, tg2L_1, tn2L_1_1, tn2L_1_2, tn2L_1_3, hkk, hT2⟩
  have F10 := F9.wide EL2
  have hzL2 := EL2.size
  refine wk_seq ?_
  refine wk_seq ?_
  refine wk_region ?_
  obtain ⟨sA9, cA9, sB9, cB9, he⟩ := mtab_at hT2 (msk_row hl)
  obtain ⟨bT, oT, hsT, hcA, hcB⟩ := (tw2L_1).get he
  subst hsT
  have hlT := (List.getElem?_eq_some_iff.1 he).1
  refine lx_value (want rfl) (mv_int hs2_10) ?_
  refine lx_value (want rfl) (rn_fieldAddr fa_24_0 (A2.at 6 rfl (A1.at 6 rfl rfl))) ?_
  refine lx_value (want rfl) (rn_load1Blk ag_22 rfl BL2_3 rfl) ?_
  refine lx_value (want rfl) (mv_int (A2.at 9 rfl hs1_9)) ?_
  refine lx_value (want rfl) (rn_index i Tryz.underlying22 sz_65 rfl rfl rfl hlT) ?_
  refine lx_value (want rfl) (rn_fieldAddr fa_65_0 rfl) ?_
  refine lx_value (want rfl) (rn_load1 ag_30 rfl (show _ = some (Value.slice sA9 (mskH bits (sumL (p.2.take i)) l kk).length cA9) from hcA)) ?_
  refine lx_value (want rfl) (rn_len Tryz.underlying30 rfl) ?_
  refine lx_value (want rfl) (rn_lss rfl rfl) ?_
  refine lx_dec (fun hlt2 => ?_) (fun hlt2 => ?_)
  ·
   rw [mskH_len] at hlt2
   obtain ⟨v, hv⟩ := getx hlt2
   have hnx : kk < (mskH bits (sumL (p.2.take i)) l kk).length := by rw [mskH_len]; omega
   refine lx_nil ?_
   refine wk_cond_t rfl ?_
   refine wk_skip ?_
   refine wk_seq ?_
   refine wk_block ?_
   refine wk_seq ?_
   refine wk_seq ?_
   refine wk_region ?_
   refine lx_value (want rfl) (mv_int (A2.at 1 rfl (A1.at 1 rfl rfl))) ?_
   refine lx_value (want rfl) (mv_int hs2_8) ?_
   refine lx_value (want rfl) (rn_rem rfl rfl (by omega)) ?_
   refine lx_value (want rfl) (rn_conv Tryz.underlying3 Tryz.underlying100 rfl (msk_wrap _)) ?_
   refine lx_value (want rfl) (rn_mshr rfl rfl) ?_
   refine lx_value (want rfl) (rn_rem rfl rfl ⟨Int.natCast_nonneg _, by decide⟩) ?_
   refine lx_value (want rfl) (rn_eql rfl rfl) ?_
   refine lx_dec (fun hb1 => ?_) (fun hb1 => ?_)
   ·
    have hm2 := msk_yes (bits := bits) (n := sumL (p.2.take i)) hv (by omega)
    obtain ⟨bA, oA, hsA⟩ := own_some ((tw2L_1).ownA _ _ he) (show 0 < (mskH bits (sumL (p.2.take i)) l kk).length by omega)
    subst hsA
    refine lx_nil ?_
    refine wk_cond_t rfl ?_
    refine wk_region ?_
    refine lx_value (want rfl) (rn_fieldAddr fa_24_0 (A2.at 6 rfl (A1.at 6 rfl rfl))) ?_
    refine lx_value (want rfl) (rn_load1Blk ag_22 rfl BL2_3 rfl) ?_
    refine lx_value (want rfl) (mv_int (A2.at 9 rfl hs1_9)) ?_
    refine lx_value (want rfl) (rn_index i Tryz.underlying22 sz_65 rfl rfl rfl hlT) ?_
    refine lx_value (want rfl) (rn_fieldAddr fa_65_0 rfl) ?_
    refine lx_value (want rfl) (rn_load1 ag_30 rfl (show _ = some (Value.slice (some ⟨bA, oA, none⟩) (mskH bits (sumL (p.2.take i)) l kk).length cA9) from hcA)) ?_
    refine lx_value (want rfl) (mv_int hs2_10) ?_
    refine lx_value (want rfl) (rn_build0  (fun w => bd_36  w)) ?_
    refine lx_value (want rfl) (rn_index kk Tryz.underlying30 sz_36 rfl rfl rfl hnx) ?_
    have hM1 := tw2L_1
    refine lx_owncell (j := kk * 2) (want rfl) sz_36 rfl (t_agg rfl) rfl rfl rfl (hM1.ownA _ _ he) (show kk * 2 + 2 ≤ (mskH bits (sumL (p.2.take i)) l kk).length * 2 by omega) ?_
    intro w11 E4' HO1
    have E4 : Fr (ob (some (⟨bA, oA, none⟩ : Addr))) _ _ := E4'.mono (fun i _ hi => ⟨_, _, by subst hi; rfl⟩)
    have F11 := F10.new E4 (fun k h => tg2L_1 k (.inr ⟨_, _, he, .inl h⟩))
    have hz4 := E4.size
    obtain ⟨tw1, ti1'⟩ := MTab.set (e' := (((some (⟨bA, oA, none⟩ : Addr)), cA9, (mskH bits (sumL (p.2.take i)) l kk).set kk (0, 0)), (sB9, cB9, ([] : List Rd)))) hM1 he (E4.mono (fun k _ h => .inl h)) (by show OwnS _ _ _ _ (List.set _ _ _).length _ ((List.set _ _ _).flatMap vlC); rw [flat_setV hnx, List.length_set]; exact HO1) ((hM1.ownB _ _ he).fr E4 (fun k h1 h2 => hM1.sepAB _ _ he k h2 h1)) (fun k h1 h2 => hM1.sepAB _ _ he k h1 h2) (fun k h => .inl h) (Fr.refl _ _) (by rw [flat_same he (by simp [SE.vs, TE.v])]; exact hM1.out.fr E4 (fun k h1 h2 => hM1.sep _ _ he k (.inl h2) h1))
    have ti1 : ∀ k, mtb (some (⟨bT, oT, none⟩ : Addr)) (TT2_1.set i (((some (⟨bA, oA, none⟩ : Addr)), cA9, (mskH bits (sumL (p.2.take i)) l kk).set kk (0, 0)), (sB9, cB9, ([] : List Rd)))) k → (mtb (some (⟨bT, oT, none⟩ : Addr)) TT2_1 k ∨ w11.heap.size ≤ k) := fun k hk => (ti1' k hk).elim .inl (fun h => .inl (.inr ⟨_, _, he, h⟩))
    have tg3 : ∀ k, mtb (some (⟨bT, oT, none⟩ : Addr)) (TT2_1.set i (((some (⟨bA, oA, none⟩ : Addr)), cA9, (mskH bits (sumL (p.2.take i)) l kk).set kk (0, 0)), (sB9, cB9, ([] : List Rd)))) k → w0.heap.size ≤ k := fun k hk => (ti1 k hk).elim (tg2L_1 k) (fun h => by omega)
    have tn3_1 : ∀ k, mtb (some (⟨bT, oT, none⟩ : Addr)) (TT2_1.set i (((some (⟨bA, oA, none⟩ : Addr)), cA9, (mskH bits (sumL (p.2.take i)) l kk).set kk (0, 0)), (sB9, cB9, ([] : List Rd)))) k → k ≠ b1 := fun k hk => (ti1 k hk).elim (tn2L_1_1 k) (fun h => by have := (BL2_1).lt; omega)
    have tn3_2 : ∀ k, mtb (some (⟨bT, oT, none⟩ : Addr)) (TT2_1.set i (((some (⟨bA, oA, none⟩ : Addr)), cA9, (mskH bits (sumL (p.2.take i)) l kk).set kk (0, 0)), (sB9, cB9, ([] : List Rd)))) k → k ≠ b2 := fun k hk => (ti1 k hk).elim (tn2L_1_2 k) (fun h => by have := (BL2_2).lt; omega)
    have tn3_3 : ∀ k, mtb (some (⟨bT, oT, none⟩ : Addr)) (TT2_1.set i (((some (⟨bA, oA, none⟩ : Addr)), cA9, (mskH bits (sumL (p.2.take i)) l kk).set kk (0, 0)), (sB9, cB9, ([] : List Rd)))) k → k ≠ b3 := fun k hk => (ti1 k hk).elim (tn2L_1_3 k) (fun h => by have := (BL2_3).lt; omega)
    refine lx_nil ?_
    refine wk_region ?_
    refine lx_value (want rfl) (mv_int hs2_8) ?_
    refine lx_value (want rfl) (rn_add rfl rfl (by omega)) ?_
    refine lx_value (want rfl) (as_int rfl) ?_
    refine lx_nil ?_
    refine wk_region ?_
    refine lx_value (want rfl) (mv_int hs2_10) ?_
    refine lx_value (want rfl) (rn_add rfl rfl (by omega)) ?_
    refine lx_value (want rfl) (as_int rfl) ?_
    refine lx_nil ?_
    exact ⟨rfl, ((((((((((((((((((((((((((((((((A2.up rfl _).up rfl _).up rfl _).up rfl _).up rfl _).up rfl _).up rfl _).up rfl _).up rfl _).up rfl _).up rfl _).up rfl _).up rfl _).up rfl _).up rfl _).up rfl _).up rfl _).up rfl _).up rfl _).up rfl _).up rfl _).up rfl _).up rfl _).up rfl _).up rfl _).none _).up rfl _).up rfl _).up rfl _).up rfl _).up rfl _).up rfl _), Fr.between F9 F11 (by omega), _, (by omega), kk + 1, (some (⟨bT, oT, none⟩ : Addr)), ct2_1, (TT2_1.set i (((some (⟨bA, oA, none⟩ : Addr)), cA9, (mskH bits (sumL (p.2.take i)) l kk).set kk (0, 0)), (sB9, cB9, ([] : List Rd)))), rfl, rfl, rfl, (BL2_1.fr E4 (fun h => tn2L_1_1 _ (.inr ⟨_, _, he, .inl h⟩) rfl)), (BL2_2.fr E4 (fun h => tn2L_1_2 _ (.inr ⟨_, _, he, .inl h⟩) rfl)), (by first | exact (BL2_3.fr E4 (fun h => tn2L_1_3 _ (.inr ⟨_, _, he, .inl h⟩) rfl)) | (rw [List.length_set]; exact (BL2_3.fr E4 (fun h => tn2L_1_3 _ (.inr ⟨_, _, he, .inl h⟩) rfl)))), tw1, tg3, tn3_1, tn3_2, tn3_3, by omega, (by rw [hm2]; first | exact hT2 | exact msk_store hT2 rfl)⟩
   ·
    have hm2 := msk_no (bits := bits) (n := sumL (p.2.take i)) hv (by omega)
    refine lx_nil ?_
    refine wk_cond_f rfl ?_
    refine wk_skip ?_
    refine wk_region ?_
    refine lx_value (want rfl) (mv_int hs2_8) ?_
    refine lx_value (want rfl) (rn_add rfl rfl (by omega)) ?_
    refine lx_value (want rfl) (as_int rfl) ?_
    refine lx_nil ?_
    refine wk_region ?_
    refine lx_value (want rfl) (mv_int hs2_10) ?_
    refine lx_value (want rfl) (rn_add rfl rfl (by omega)) ?_
    refine lx_value (want rfl) (as_int rfl) ?_
    refine lx_nil ?_
    exact ⟨rfl, ((((((((((((((((((((((A2.up rfl _).up rfl _).up rfl _).up rfl _).up rfl _).up rfl _).up rfl _).up rfl _).up rfl _).up rfl _).up rfl _).up rfl _).up rfl _).up rfl _).up rfl _).up rfl _).up rfl _).up rfl _).up rfl _).up rfl _).up rfl _).up rfl _), Fr.between F9 F10 (by omega), _, (by omega), kk + 1, (some (⟨bT, oT, none⟩ : Addr)), ct2_1, TT2_1, rfl, rfl, rfl, BL2_1, BL2_2, (by first | exact BL2_3 | (rw [List.length_set]; exact BL2_3)), tw2L_1, tg2L_1, tn2L_1_1, tn2L_1_2, tn2L_1_3, by omega, (by rw [hm2]; first | exact hT2 | exact msk_store hT2 rfl)⟩
  ·
   rw [mskH_len] at hlt2
   have hT3 := msk_row_end hl hT2 hlt2
   refine lx_nil ?_
   refine wk_cond_f rfl ?_
   refine wk_exit ?_
   refine wk_region ?_
   refine lx_value (want rfl) (mv_int (A2.at 9 rfl hs1_9)) ?_
   refine lx_value (want rfl) (rn_add rfl rfl (by omega)) ?_
   refine lx_value (want rfl) (as_int rfl) ?_
   refine lx_nil ?_
   exact ⟨rfl, (((((((((((((((((((A1.up rfl _).up rfl _).up rfl _).up rfl _).up rfl _).up rfl _).loop A2 rfl).up rfl _).up rfl _).up rfl _).up rfl _).up rfl _).up rfl _).up rfl _).up rfl _).up rfl _).up rfl _).up rfl _).up rfl _), Fr.between F8 F10 (by omega), _, (by omega), i + 1, (some (⟨bT, oT, none⟩ : Addr)), ct2_1, TT2_1, rfl, rfl, (by rw [sumL_on hl, show l.length = kk by omega]; exact hs2_8), BL2_1, BL2_2, BL2_3, tw2L_1, tg2L_1, tn2L_1_1, tn2L_1_2, tn2L_1_3, by omega, hT3⟩
 ·
  have hTl : TT1_1.length = p.2.length := by have := congrArg List.length hT; rw [List.length_map, memC_len, mskU_len] at this; exact this
  rw [hTl] at hlt
  have hend := hlt
  refine lx_nil ?_
  refine wk_cond_f rfl ?_
  refine wk_exit ?_
  refine wk_seq ?_
  have hNT := msk_all hT hend
  have hNl : TT1_1.length = (memC (mskA bits 0 p.2)).length := by have := congrArg List.length hNT; rwa [List.length_map] at this
  have hN5 := BL1_3; rw [hNl] at hN5
  have hNm := hNT ▸ MTab.readM tw1L_1 (F := fun _ => True) (fun _ _ => trivial)
  refine wk_mix 10 (fun kS => match kS with | 3 => .any (fun I v w => ∃ s c, v = .slice s p.1.length c ∧ VlS (Iv I.1 I.2) w s p.1) | 4 => .any (fun I v w => w9.heap.size ≤ I.1 ∧ ∃ pv, v = .tuple #[pv, .int .i64 0] ∧ PicI I w pv (drawP (mskA bits 0 p.2) p.1)) | 8 => .any (fun I v w => v = .pointer (some ⟨I.1, 0, none⟩) ∧ w9.heap.size ≤ I.1 ∧ I.1 < I.2 ∧ Blk w I.1 [.slice none 0 0, .slice none 0 0] 45) | 9 => .sto 11 66 (fun J u w => J.1 < J.2 ∧ Blk w J.1 u.cells.toList 45) | _ => .none) (by kernel_rfl) (by kernel_rfl) (by intro kS G hk; (try dsimp only at hk); (split at hk) <;> first | (cases hk; done) | (injection hk with hk; subst hk; exact ⟨by intro j hkj I v w w' hR hG; first | exact hG | (obtain ⟨s, c, h1, h2⟩ := hG; exact ⟨s, c, h1, h2.fr (vl_stab _) hR (fun _ _ h => h)⟩) | (obtain ⟨h0, pv, h1, h2⟩ := hG; exact ⟨h0, pv, h1, h2.fr hR (fun _ _ h => h)⟩) | (obtain ⟨h1, h2, hI, h3⟩ := hG; exact ⟨h1, h2, hI, h3.ext hR⟩), fun _ I v w w' hR hG => by first | exact hG | (obtain ⟨s, c, h1, h2⟩ := hG; exact ⟨s, c, h1, h2.fr (vl_stab _) hR (fun k hk h => h.2 hk)⟩) | (obtain ⟨h0, pv, h1, h2⟩ := hG; exact ⟨h0, pv, h1, h2.fr hR (fun k hk h => h.2 hk)⟩) | (obtain ⟨h1, h2, hI, h3⟩ := hG; exact ⟨h1, h2, hI, h3.fr hR (fun h => h.2 ⟨Nat.le_refl _, hI⟩)⟩)⟩)) (by intro kS s y G hk; (try dsimp only at hk); (split at hk) <;> first | (cases hk; done) | (injection hk with hk1 hk2 hk3; subst hk1; subst hk2; subst hk3; exact ⟨by kernel_rfl, by intro j hkj I v w w' hR hG; exact ⟨hG.1, hG.2.ext hR⟩, fun I v w w' hR hG => ⟨hG.1, hG.2.fr hR (fun h => h.2 ⟨Nat.le_refl _, hG.1⟩)⟩⟩)) ?_
  simp only [List.take_succ_cons, List.take_zero, List.take_nil, List.drop_succ_cons, List.drop_zero, List.drop_nil]
  refine mx_calm rfl (want rfl) (fun u1 eu1 fu1 => rn_loadBlk ag_24 sz_24 (A1.at 6 rfl rfl) (hN5.ext ((ext_drawn _).trans' eu1)) rfl rfl) ?_
  refine mx_calm rfl (want rfl) (fun u2 eu2 fu2 => rn_fieldAddr fa_45_0 (A1.at 2 rfl rfl)) ?_
  refine mx_calm rfl (want rfl) (fun u3 eu3 fu3 => rn_load1Blk ag_30 rfl (BL1_1.ext ((ext_drawn _).trans' eu3)) rfl) ?_
  refine mx_any rfl rfl (want rfl) (fun u4 eu4 fu4 => do_call (ent_func cf_28 (argsC (t_slice rfl) args0)) (values_ct p.1 sv cv G u4 (hv.fr (vl_stab _) (F9.ext ((ext_drawn _).trans' eu4)) (fun _ _ h => h)) hB1) (fun v w' E h => ⟨E, (by obtain ⟨s, c, h1, h2, h3⟩ := h; exact ⟨s, c, h1, own_vl h2 h3⟩)⟩)) (fun I64 v64 => ?_)
  refine mx_any rfl rfl (want rfl) (fun u5 eu5 fu5 => by obtain ⟨s64, c64, rfl, hV64⟩ := fu5 64 _ rfl (show (64 : Nat) ∈ _ from by decide); exact do_call (ent_func cf_30 (argsC (t_agg rfl) (argsC (t_slice rfl) args0))) (pDraw_ct (memC (mskA bits 0 p.2)) _ _ _ hBu p.1 s64 c64 _ hB1 u5 (hNm.fr (st_stab _) ((ext_drawn _).trans' eu5) (fun _ _ h => h)) hV64) (fun v w' E h => ⟨E, ⟨((ext_drawn _).trans' eu5).size, (by rw [msk_draw hp] at h; exact h)⟩⟩)) (fun I65 v65 => ?_)
  refine mx_calm (v := .tuple #[.agg #[.slice (sad (aget (tget v65 0) 0)) (sln (aget (tget v65 0) 0)) (scp (aget (tget v65 0) 0)), .slice (sad (aget (tget v65 0) 1)) (sln (aget (tget v65 0) 1)) (scp (aget (tget v65 0) 1))], .int .i64 0]) rfl (want rfl) (fun u6 eu6 fu6 => by obtain ⟨_, pv, rfl, s1, c1, s2, c2, rfl, _, _⟩ := fu6 65 _ rfl (show (65 : Nat) ∈ _ from by decide); exact rn_move rfl) ?_
  refine mx_calm rfl (want rfl) (fun u7 eu7 fu7 => rn_extract rfl rfl) ?_
  refine mx_calm rfl (want rfl) (fun u8 eu8 fu8 => rn_extract rfl rfl) ?_
  refine mx_any rfl rfl (want rfl) (fun u9 eu9 fu9 => (do_new3 (rn_alloc ze_45) (show _ ≤ _ from (((ext_drawn _).trans' eu9)).size)).mono (fun v w' h => ⟨h.1, h.2⟩)) (fun I11 v11 => ?_)
  refine mx_sto rfl rfl rfl rfl (want rfl) (fun u10 eu10 fu10 _ => by obtain ⟨rfl, hl11, hi11, hB11⟩ := fu10 11 _ rfl (show (11 : Nat) ∈ _ from by decide); exact (do_sto sz_45 rfl rfl rfl rfl rfl hB11 rfl ⟨Nat.le_refl _, hi11⟩).mono (fun v w' h => ⟨h.1, h.2.1, hi11, h.2.2⟩)) ?_
  refine mx_nil (fun w10 E5' H1 HS => ?_)
  have E5 := (ext_drawn _).trans' E5'
  have F12 := F9.ext E5
  have hz5 := E5.size
  have hI11 := (HS.1 11 _ rfl).2
  have hI65 := (HS.1 65 _ rfl).2
  have hI64 := (HS.1 64 _ rfl).2
  have hX11_65 := HS.2 11 _ 65 _ rfl rfl (show (11 : Nat) ≠ 65 from by decide)
  have hX11_64 := HS.2 11 _ 64 _ rfl rfl (show (11 : Nat) ≠ 64 from by decide)
  have hX65_64 := HS.2 65 _ 64 _ rfl rfl (show (65 : Nat) ≠ 64 from by decide)
  simp only at hI11
  simp only at hI65
  simp only at hI64
  simp only at hX11_65
  simp only at hX11_64
  simp only at hX65_64
  have g11 := H1 11 _ rfl
  obtain ⟨⟨_, hv11, hb11, _, _⟩, hi11, hB11⟩ := g11; subst hv11; have hlb11 := hB11.lt
  have g65 := H1 65 _ rfl
  obtain ⟨hI65a, pv, rfl, hPI⟩ := g65
  obtain ⟨s3, c3, s4, c4, rfl, hV3, hV4⟩ := hPI
  have g64 := H1 64 _ rfl
  have nb1 : ∀ k, mtb st1_1 TT1_1 k → k ≠ I11.1 := fun k hk => by have := (tw1L_1).lt hk; omega
  refine lx_value (want rfl) (as_int rfl) ?_
  refine lx_nil ?_
  refine wk_seq ?_
  refine wk_region ?_
  refine lx_value (want rfl) (rn_loadBlk ag_45 sz_45 rfl hB11 rfl rfl) ?_
  refine lx_value (want rfl) (mv_int rfl) ?_
  refine lx_value (want rfl) (rn_eql rfl rfl) ?_
  refine lx_set (want rfl) sz_45 (A1.at 4 rfl rfl) (t_agg rfl) rfl rfl rfl (BL1_2.ext E5) (Nat.le_of_ble_eq_true rfl) ?_
  intro w11 Es3 Bs3
  have F13 := F12.set Es3 (by omega)
  have hzs3 := Es3.size
  refine lx_value (want rfl) (as_bool rfl) ?_
  refine lx_nil ?_
  refine wk_ret ?_
  refine retR2 Tryz.results60 (.cell (A1.at 4 rfl rfl) (run_loadVar_blk ag_45 sz_45 Bs3 rfl rfl)) (.tmp (t_bool rfl)) F13 ?_
  exact ⟨_, rfl, s3, c3, s4, c4, rfl, (hV3.fr (vl_stab _) (Fr.trans (Fr.refl (fun k => k = b2) w10) Es3 (fun k _ h => h)) (fun k hk h => by have hk1 := hk.1; have hk2 := hk.2; (try dsimp only at h hk1 hk2); first | exact h.elim | omega | (rcases (show _ ∨ _ from h) with h | h <;> omega))).wide (fun k hk => ⟨by have := hk.1; omega, by have := hk.2; omega⟩), vv_wide (hV4.fr (vv_stab _) (Fr.trans (Fr.refl (fun k => k = b2) w10) Es3 (fun k _ h => h)) (fun k hk h => by have hk1 := hk.1; have hk2 := hk.2; (try dsimp only at h hk1 hk2); first | exact h.elim | omega | (rcases (show _ ∨ _ from h) with h | h <;> omega))) (fun k hk => ⟨by have := hk.1; omega, by have := hk.2; omega⟩)⟩

end Go.Proofs.YtnhgfmbmfjmonaaGreatDoor

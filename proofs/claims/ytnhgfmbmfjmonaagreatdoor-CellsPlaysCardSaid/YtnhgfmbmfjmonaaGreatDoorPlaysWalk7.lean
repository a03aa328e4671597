/- What functions compute: refwrite. -/
import Derived.Test.YtnhgfmbmfjmonaaGreatDoorPlaysFacts
import Derived.Test.YtnhgfmbmfjmonaaGreatDoorPlaysPre
import Derived.Test.YtnhgfmbmfjmonaaGreatDoorPlaysWalk4
import Derived.Test.YtnhgfmbmfjmonaaGreatDoorPlaysWalk6
set_option maxRecDepth 100000
set_option linter.unusedVariables false
set_option linter.unusedSimpArgs false
namespace Go.Proofs.YtnhgfmbmfjmonaaGreatDoor
open Go Go.RowKit Go.Mix Go.Eng
set_option maxRecDepth 100000 in
theorem refwrite_ct (m : Mem) (s : Option Addr) (c : Nat) (G : Nat → Prop) (hB : Bm m) (s2 ix : Vl) (hs : s2.1 = 4 → 0 ≤ s2.2 ∧ num s2 < m.length) (y : Vl) (w0 : World) (hm : MemS G w0 s m) :
    CT Tryz.prog 89 [.agg #[.slice s m.length c], .agg #[.int .u8 s2.1, .int .i64 s2.2], .agg #[.int .u8 ix.1, .int .i64 ix.2], .agg #[.int .u8 y.1, .int .i64 y.2]] w0 no (fun v w => OutW G w0.heap.size w v (writeR m s2 ix y)) := by
  have hBl := hB.1
  have F0 := Fr.refl no w0
  refine ct_body Tryz.func89 rfl Tryz.ntmps89 (Nat.le_of_ble_eq_true rfl) ?_
  refine wk_seq ?_
  refine wk_region ?_
  refine lx_new (want rfl) (rn_box (t_agg rfl)) ?_
  intro b1 w1 hb1 Eb1 B1 hlb1
  have F1 := F0.ext Eb1
  have hzb1 := Eb1.size
  refine lx_new (want rfl) (rn_box (t_agg rfl)) ?_
  intro b2 w2 hb2 Eb2 B2 hlb2
  have F2 := F1.ext Eb2
  have hzb2 := Eb2.size
  refine lx_new (want rfl) (rn_box (t_agg rfl)) ?_
  intro b3 w3 hb3 Eb3 B3 hlb3
  have F3 := F2.ext Eb3
  have hzb3 := Eb3.size
  refine lx_new (want rfl) (rn_box (t_agg rfl)) ?_
  intro b4 w4 hb4 Eb4 B4 hlb4
  have F4 := F3.ext Eb4
  have hzb4 := Eb4.size
  refine lx_new (want rfl) (rn_alloc ze_24) ?_
  intro b5 w5 hb5 Eb5 B5 hlb5
  have F5 := F4.ext Eb5
  have hzb5 := Eb5.size
  refine lx_value (want rfl) (as_slice rfl) ?_
  refine lx_value (want rfl) (as_int rfl) ?_
  refine lx_nil ?_
  refine wk_seq ?_
  refine wk_seq ?_
  refine wk_region ?_
  refine lx_value (want rfl) (rn_loadBlk ag_24 sz_24 rfl ((((B1.ext Eb2).ext Eb3).ext Eb4).ext Eb5) rfl rfl) ?_
  refine lx_value (want rfl) (rn_loadBlk ag_36 sz_36 rfl (((B2.ext Eb3).ext Eb4).ext Eb5) rfl rfl) ?_
  refine lx_value (want rfl) (rn_loadBlk ag_36 sz_36 rfl ((B3.ext Eb4).ext Eb5) rfl rfl) ?_
  refine lx_call (want rfl) (ent_func cf_142 (argsC (t_agg rfl) (argsC (t_agg rfl) (argsC (t_agg rfl) args0)))) (fits_ct m _ _ _ hB _ _ hs w5 (hm.fr (st_stab _) F5 (fun _ _ h => h))) ?_
  rintro _ w6 E1 rfl
  have F6 := F5.ext E1
  have hz1 := E1.size
  refine lx_split (fun hf => ?_) (fun hf => ?_)
  ·
    obtain ⟨x, hx, hsx, hnx, hni, h4f, h1f⟩ := fit_at hf
    obtain ⟨hs0, hsl⟩ := hs h4f
    obtain ⟨bx, ox, rfl, _, sc, cc, sw, cw, hcx, hcy, hcv, hcr⟩ := hm _ x hx
    have hBx := hB.get hx
    obtain ⟨u, hu⟩ : ∃ u, x.1[num ix]? = some u := ⟨_, List.getElem?_eq_getElem hnx⟩
    obtain ⟨bu, ou, hsu, _, hcu⟩ := hcv _ u hu
    subst hsu
    refine lx_value (want rfl) (rn_not rfl) ?_
    refine lx_nil ?_
    refine wk_cond_f rfl ?_
    refine wk_skip ?_
    refine wk_seq ?_
    refine wk_seq ?_
    refine wk_mix 9 (fun _ => .none) (by kernel_rfl) (by kernel_rfl) (fun kS G hk => by cases hk) (fun kS s y G hk => by cases hk) ?_
    simp only [List.take_succ_cons, List.take_zero, List.take_nil, List.drop_succ_cons, List.drop_zero, List.drop_nil]
    refine mx_calm rfl (want rfl) (fun u1 eu1 fu1 => rn_fieldAddr fa_24_0 rfl) ?_
    refine mx_calm rfl (want rfl) (fun u2 eu2 fu2 => rn_load1Blk ag_22 rfl ((((((B1.ext Eb2).ext Eb3).ext Eb4).ext Eb5).ext E1).ext ((ext_drawn _).trans' eu2)) rfl) ?_
    refine mx_calm rfl (want rfl) (fun u3 eu3 fu3 => rn_fieldAddr fa_36_1 rfl) ?_
    refine mx_calm rfl (want rfl) (fun u4 eu4 fu4 => rn_load1Blk ag_3 rfl (((((B2.ext Eb3).ext Eb4).ext Eb5).ext E1).ext ((ext_drawn _).trans' eu4)) rfl) ?_
    refine mx_calm rfl (want rfl) (fun u5 eu5 fu5 => rn_index (num s2) Tryz.underlying22 sz_65 rfl rfl (by unfold num; omega) hsl) ?_
    refine mx_calm rfl (want rfl) (fun u6 eu6 fu6 => rn_fieldAddr fa_65_0 rfl) ?_
    refine mx_calm rfl (want rfl) (fun u7 eu7 fu7 => rn_load1 ag_30 rfl ((F6.ext ((ext_drawn _).trans' eu7)).cell (fun h => h) hcx)) ?_
    refine mx_calm rfl (want rfl) (fun u8 eu8 fu8 => rn_fieldAddr fa_36_1 rfl) ?_
    refine mx_calm rfl (want rfl) (fun u9 eu9 fu9 => rn_load1Blk ag_3 rfl ((((B3.ext Eb4).ext Eb5).ext E1).ext ((ext_drawn _).trans' eu9)) rfl) ?_
    refine mx_nil (fun w7 E2' H1 HS => ?_)
    have E2 := (ext_drawn _).trans' E2'
    have F7 := F6.ext E2
    have hz2 := E2.size
    refine lx_value (want rfl) (rn_index (num ix) Tryz.underlying30 sz_36 rfl rfl hni.symm hnx) ?_
    refine lx_value (want rfl) (rn_fieldAddr fa_36_0 rfl) ?_
    refine lx_value (want rfl) (rn_load1 ag_5 rfl (F7.cell (fun h => h) (hcu 0 _ rfl))) ?_
    refine lx_value (want rfl) (rn_neq rfl rfl) ?_
    refine lx_dec (fun h0 => ?_) (fun h0 => ?_)
    ·
      refine lx_nil ?_
      refine wk_cond_t rfl ?_
      refine wk_seq ?_
      refine wk_region ?_
      refine lx_value (want rfl) (rn_loadBlk ag_24 sz_24 rfl ((((((B1.ext Eb2).ext Eb3).ext Eb4).ext Eb5).ext E1).ext E2) rfl rfl) ?_
      refine lx_set (want rfl) sz_24 rfl (t_agg rfl) rfl rfl rfl ((B5.ext E1).ext E2) (Nat.le_of_ble_eq_true rfl) ?_
      intro w8 Es1 Bs1
      have F8 := F7.set Es1 (by omega)
      have hzs1 := Es1.size
      refine lx_value (want rfl) (as_slice rfl) ?_
      refine lx_value (want rfl) (as_int rfl) ?_
      refine lx_nil ?_
      refine wk_ret ?_
      refine retR3 Tryz.results89 (.cell rfl (run_loadVar_blk ag_24 sz_24 Bs1 rfl rfl)) (.tmp (t_slice rfl)) (.tmp (t_int rfl)) F8 ?_
      exact wr_full hf hsx hu h0
    ·
      refine lx_nil ?_
      refine wk_cond_f rfl ?_
      refine wk_skip ?_
      refine wk_seq ?_
      refine wk_region ?_
      refine lx_value (want rfl) (rn_loadBlk ag_24 sz_24 rfl ((((((B1.ext Eb2).ext Eb3).ext Eb4).ext Eb5).ext E1).ext E2) rfl rfl) ?_
      refine lx_call (want rfl) (ent_func cf_20 (argsC (t_agg rfl) args0)) (copy_ct m _ _ _ hB w7 (hm.fr (st_stab _) F7 (fun _ _ h => h))) ?_
      rintro _ w8 E3 ⟨sC, cC, TC, rfl, hTC, hTabC, hgC⟩
      have F9 := F7.ext E3
      have hz3 := E3.size
      have tg2 : ∀ k, mtb sC TC k → w0.heap.size ≤ k := fun k hk => ((mtb_inr hgC) k hk).elim ((fun _ h => mtb_nil h) k) (fun h => by omega)
      have tn2_1 : ∀ k, mtb sC TC k → k ≠ b1 := fun k hk => ((mtb_inr hgC) k hk).elim ((fun _ h => mtb_nil h) k) (fun h => by have := (B1).lt; omega)
      have tn2_2 : ∀ k, mtb sC TC k → k ≠ b2 := fun k hk => ((mtb_inr hgC) k hk).elim ((fun _ h => mtb_nil h) k) (fun h => by have := (B2).lt; omega)
      have tn2_3 : ∀ k, mtb sC TC k → k ≠ b3 := fun k hk => ((mtb_inr hgC) k hk).elim ((fun _ h => mtb_nil h) k) (fun h => by have := (B3).lt; omega)
      have tn2_4 : ∀ k, mtb sC TC k → k ≠ b4 := fun k hk => ((mtb_inr hgC) k hk).elim ((fun _ h => mtb_nil h) k) (fun h => by have := (B4).lt; omega)
      have tn2_5 : ∀ k, mtb sC TC k → k ≠ b5 := fun k hk => ((mtb_inr hgC) k hk).elim ((fun _ h => mtb_nil h) k) (fun h => by have := (B5).lt; omega)
      refine lx_new (want rfl) (rn_alloc ze_24) ?_
      intro b6 w9 hb6 Eb6 B6 hlb6
      have F10 := F9.ext Eb6
      have hzb6 := Eb6.size
      have nb1 : ∀ k, mtb sC TC k → k ≠ b6 := fun k hk => by have := (hTabC).lt hk; omega
      refine lx_set (want rfl) sz_24 rfl (t_agg rfl) rfl rfl rfl B6 (Nat.le_of_ble_eq_true rfl) ?_
      intro w10 Es2 Bs2
      have F11 := F10.set Es2 (by omega)
      have hzs2 := Es2.size
      refine lx_nil ?_
      refine wk_seq ?_
      refine wk_region ?_
      refine lx_value (want rfl) (rn_fieldAddr fa_24_0 rfl) ?_
      refine lx_value (want rfl) (rn_load1Blk ag_22 rfl Bs2 rfl) ?_
      refine lx_value (want rfl) (rn_fieldAddr fa_36_1 rfl) ?_
      refine lx_value (want rfl) (rn_load1Blk ag_3 rfl ((((((((B2.ext Eb3).ext Eb4).ext Eb5).ext E1).ext E2).ext E3).ext Eb6).ne Es2 (by omega)) rfl) ?_
      obtain ⟨sA, cA, sB, cB, he⟩ := mtab_at hTC hx
      obtain ⟨bT, oT, hsT, hcA, hcB⟩ := (((hTabC.ext Eb6).fr Es2 (fun k hk h => nb1 k hk h))).get he
      subst hsT
      have hlt := (List.getElem?_eq_some_iff.1 he).1
      refine lx_value (want rfl) (rn_index (num s2) Tryz.underlying22 sz_65 rfl rfl (by unfold num; omega) hlt) ?_
      refine lx_value (want rfl) (as_pointer rfl) ?_
      refine lx_nil ?_
      refine wk_seq ?_
      have hTo := ((hTabC.ext Eb6).fr Es2 (fun k hk h => nb1 k hk h))
      obtain ⟨bA, oA, hsA⟩ := own_some (hTo.ownA _ _ he) (show 0 < x.1.length by omega)
      subst hsA
      refine wk_mix 7 (fun _ => .none) (by kernel_rfl) (by kernel_rfl) (fun kS G hk => by cases hk) (fun kS s y G hk => by cases hk) ?_
      simp only [List.take_succ_cons, List.take_zero, List.take_nil, List.drop_succ_cons, List.drop_zero, List.drop_nil]
      refine mx_calm rfl (want rfl) (fun u10 eu10 fu10 => mv_pointer rfl) ?_
      refine mx_calm rfl (want rfl) (fun u11 eu11 fu11 => rn_nilCheck rfl) ?_
      refine mx_calm rfl (want rfl) (fun u12 eu12 fu12 => rn_fieldAddr fa_65_0 rfl) ?_
      refine mx_calm rfl (want rfl) (fun u13 eu13 fu13 => rn_load1 ag_30 rfl (show _ = some (Value.slice (some (⟨bA, oA, none⟩ : Addr)) x.1.length cA) from MTab.cellA (((hTabC.ext Eb6).fr Es2 (fun k hk h => nb1 k hk h)).ext ((ext_drawn _).trans' eu13)) he)) ?_
      refine mx_calm rfl (want rfl) (fun u14 eu14 fu14 => rn_fieldAddr fa_36_1 rfl) ?_
      refine mx_calm rfl (want rfl) (fun u15 eu15 fu15 => rn_load1Blk ag_3 rfl ((((((((B3.ext Eb4).ext Eb5).ext E1).ext E2).ext E3).ext Eb6).ne Es2 (by omega)).ext ((ext_drawn _).trans' eu15)) rfl) ?_
      refine mx_calm rfl (want rfl) (fun u16 eu16 fu16 => rn_loadBlk ag_36 sz_36 rfl (((((((B4.ext Eb5).ext E1).ext E2).ext E3).ext Eb6).ne Es2 (by omega)).ext ((ext_drawn _).trans' eu16)) rfl rfl) ?_
      refine mx_nil (fun w11 E4' H2 HS => ?_)
      have E4 := (ext_drawn _).trans' E4'
      have F12 := F11.ext E4
      have hz4 := E4.size
      refine lx_value (want rfl) (rn_index (num ix) Tryz.underlying30 sz_36 rfl rfl hni.symm hnx) ?_
      have hM1 := (((hTabC.ext Eb6).fr Es2 (fun k hk h => nb1 k hk h)).ext E4)
      refine lx_owncell (j := num ix * 2) (want rfl) sz_36 rfl (t_agg rfl) rfl rfl rfl (hM1.ownA _ _ he) (show num ix * 2 + 2 ≤ x.1.length * 2 by omega) ?_
      intro w12 E5' HO1
      have E5 : Fr (ob (some (⟨bA, oA, none⟩ : Addr))) _ _ := E5'.mono (fun i _ hi => ⟨_, _, by subst hi; rfl⟩)
      have F13 := F12.new E5 (fun k h => tg2 k (.inr ⟨_, _, he, .inl h⟩))
      have hz5 := E5.size
      obtain ⟨tw1, ti1'⟩ := MTab.set (e' := (((some (⟨bA, oA, none⟩ : Addr)), cA, x.1.set (num ix) y), (sB, cB, x.2))) hM1 he (E5.mono (fun k _ h => .inl h)) (by show OwnS _ _ _ _ (List.set _ _ _).length _ ((List.set _ _ _).flatMap vlC); rw [flat_setV hnx, List.length_set]; exact HO1) ((hM1.ownB _ _ he).fr E5 (fun k h1 h2 => hM1.sepAB _ _ he k h2 h1)) (fun k h1 h2 => hM1.sepAB _ _ he k h1 h2) (fun k h => .inl h) (Fr.refl _ _) (by rw [flat_same he (by simp [SE.vs, TE.v])]; exact hM1.out.fr E5 (fun k h1 h2 => hM1.sep _ _ he k (.inl h2) h1))
      have ti1 : ∀ k, mtb (some (⟨bT, oT, none⟩ : Addr)) (TC.set (num s2) (((some (⟨bA, oA, none⟩ : Addr)), cA, x.1.set (num ix) y), (sB, cB, x.2))) k → (mtb (some (⟨bT, oT, none⟩ : Addr)) TC k ∨ w12.heap.size ≤ k) := fun k hk => (ti1' k hk).elim .inl (fun h => .inl (.inr ⟨_, _, he, h⟩))
      have tg3 : ∀ k, mtb (some (⟨bT, oT, none⟩ : Addr)) (TC.set (num s2) (((some (⟨bA, oA, none⟩ : Addr)), cA, x.1.set (num ix) y), (sB, cB, x.2))) k → w0.heap.size ≤ k := fun k hk => (ti1 k hk).elim (tg2 k) (fun h => by omega)
      have tn3_1 : ∀ k, mtb (some (⟨bT, oT, none⟩ : Addr)) (TC.set (num s2) (((some (⟨bA, oA, none⟩ : Addr)), cA, x.1.set (num ix) y), (sB, cB, x.2))) k → k ≠ b1 := fun k hk => (ti1 k hk).elim (tn2_1 k) (fun h => by have := (B1).lt; omega)
      have tn3_2 : ∀ k, mtb (some (⟨bT, oT, none⟩ : Addr)) (TC.set (num s2) (((some (⟨bA, oA, none⟩ : Addr)), cA, x.1.set (num ix) y), (sB, cB, x.2))) k → k ≠ b2 := fun k hk => (ti1 k hk).elim (tn2_2 k) (fun h => by have := (B2).lt; omega)
      have tn3_3 : ∀ k, mtb (some (⟨bT, oT, none⟩ : Addr)) (TC.set (num s2) (((some (⟨bA, oA, none⟩ : Addr)), cA, x.1.set (num ix) y), (sB, cB, x.2))) k → k ≠ b3 := fun k hk => (ti1 k hk).elim (tn2_3 k) (fun h => by have := (B3).lt; omega)
      have tn3_4 : ∀ k, mtb (some (⟨bT, oT, none⟩ : Addr)) (TC.set (num s2) (((some (⟨bA, oA, none⟩ : Addr)), cA, x.1.set (num ix) y), (sB, cB, x.2))) k → k ≠ b4 := fun k hk => (ti1 k hk).elim (tn2_4 k) (fun h => by have := (B4).lt; omega)
      have tn3_5 : ∀ k, mtb (some (⟨bT, oT, none⟩ : Addr)) (TC.set (num s2) (((some (⟨bA, oA, none⟩ : Addr)), cA, x.1.set (num ix) y), (sB, cB, x.2))) k → k ≠ b5 := fun k hk => (ti1 k hk).elim (tn2_5 k) (fun h => by have := (B5).lt; omega)
      have tn3_6 : ∀ k, mtb (some (⟨bT, oT, none⟩ : Addr)) (TC.set (num s2) (((some (⟨bA, oA, none⟩ : Addr)), cA, x.1.set (num ix) y), (sB, cB, x.2))) k → k ≠ b6 := fun k hk => (ti1 k hk).elim (nb1 k) (fun h => by have := (Bs2).lt; omega)
      have he2 : (TC.set (num s2) (((some (⟨bA, oA, none⟩ : Addr)), cA, x.1.set (num ix) y), (sB, cB, x.2)))[num s2]? = some (((some (⟨bA, oA, none⟩ : Addr)), cA, x.1.set (num ix) y), (sB, cB, x.2)) := List.getElem?_set_self hlt
      refine lx_nil ?_
      refine wk_seq ?_
      refine wk_region ?_
      refine lx_value (want rfl) (as_slice rfl) ?_
      refine lx_nil ?_
      refine wk_seq ?_
      refine wk_region ?_
      refine lx_value (want rfl) (as_slice rfl) ?_
      refine lx_nil ?_
      refine wk_seq ?_
      refine wk_seq ?_
      refine wk_region ?_
      refine lx_value (want rfl) (as_int rfl) ?_
      refine lx_nil ?_
      refine wk_block ?_
      refine wk_loopA [13, 14, 15, 51, 52, 53, 54, 55, 56, 57, 58, 59, 60, 61, 62, 63, 64, 65, 66, 67, 68, 69, 70, 71, 72, 73, 74, 75, 76, 77, 78, 79, 80, 81, 82, 83, 84, 85, 86, 87, 88, 89, 90, 91, 92, 93] no (fun nM ρ w => ∃ (i : Nat) (so1_2 : Option Addr) (co1_2 : Nat) (so1_3 : Option Addr) (co1_3 : Nat), nM = x.2.length - i ∧ ρ 15 = .int .i64 i ∧ ρ 13 = .slice so1_2 ((toldW x.2 ix.2 y i).length) co1_2 ∧ OwnS w 106 3 so1_2 ((toldW x.2 ix.2 y i).length) co1_2 ((toldW x.2 ix.2 y i).flatMap tlC) ∧ (∀ k, ob so1_2 k → w0.heap.size ≤ k) ∧ (∀ k, ob so1_2 k → (ob (none : Option Addr) k ∨ w12.heap.size ≤ k)) ∧ ρ 14 = .slice so1_3 ((restW x.2 ix.2 i).length) co1_3 ∧ OwnS w 115 2 so1_3 ((restW x.2 ix.2 i).length) co1_3 ((restW x.2 ix.2 i).flatMap rdC) ∧ (∀ k, ob so1_3 k → w0.heap.size ≤ k) ∧ (∀ k, ob so1_3 k → (ob (none : Option Addr) k ∨ w12.heap.size ≤ k)) ∧ (∀ k, ob so1_2 k → ob so1_3 k → False) ∧ (i ≤ x.2.length)) _ ⟨0, none, 0, none, 0, rfl, rfl, rfl, (OwnS.nil w12 106 3), (fun _ h => ob_none h), (fun k h => .inl h), rfl, (OwnS.nil w12 115 2), (fun _ h => ob_none h), (fun k h => .inl h), (fun _ _ h => ob_none h), by omega⟩ ?_
      rintro n1 ρ1 w13 A1 EL1 ⟨i, so1_2, co1_2, so1_3, co1_3, rfl, hs1_15, ho1_2, ow1L_2, ge1L_2, bk1L_2, ho1_3, ow1L_3, ge1L_3, bk1L_3, sp1L_2_3, hi⟩
      have F14 := F13.ext EL1
      have hzL1 := EL1.size
      have nl1_2_1 : ∀ k, ob so1_2 k → k ≠ b1 := fun k hk => (bk1L_2 k hk).elim ((fun _ h => ob_none h) k) (fun h => by have := ((((((((((((B1.ext Eb2).ext Eb3).ext Eb4).ext Eb5).ext E1).ext E2).ext E3).ext Eb6).ne Es2 (by omega)).ext E4).fr E5 (fun h => tn2_1 _ (.inr ⟨_, _, he, .inl h⟩) rfl))).lt; omega)
      have nl1_2_2 : ∀ k, ob so1_2 k → k ≠ b2 := fun k hk => (bk1L_2 k hk).elim ((fun _ h => ob_none h) k) (fun h => by have := (((((((((((B2.ext Eb3).ext Eb4).ext Eb5).ext E1).ext E2).ext E3).ext Eb6).ne Es2 (by omega)).ext E4).fr E5 (fun h => tn2_2 _ (.inr ⟨_, _, he, .inl h⟩) rfl))).lt; omega)
      have nl1_2_3 : ∀ k, ob so1_2 k → k ≠ b3 := fun k hk => (bk1L_2 k hk).elim ((fun _ h => ob_none h) k) (fun h => by have := ((((((((((B3.ext Eb4).ext Eb5).ext E1).ext E2).ext E3).ext Eb6).ne Es2 (by omega)).ext E4).fr E5 (fun h => tn2_3 _ (.inr ⟨_, _, he, .inl h⟩) rfl))).lt; omega)
      have nl1_2_4 : ∀ k, ob so1_2 k → k ≠ b4 := fun k hk => (bk1L_2 k hk).elim ((fun _ h => ob_none h) k) (fun h => by have := (((((((((B4.ext Eb5).ext E1).ext E2).ext E3).ext Eb6).ne Es2 (by omega)).ext E4).fr E5 (fun h => tn2_4 _ (.inr ⟨_, _, he, .inl h⟩) rfl))).lt; omega)
      have nl1_2_5 : ∀ k, ob so1_2 k → k ≠ b5 := fun k hk => (bk1L_2 k hk).elim ((fun _ h => ob_none h) k) (fun h => by have := ((((((((B5.ext E1).ext E2).ext E3).ext Eb6).ne Es2 (by omega)).ext E4).fr E5 (fun h => tn2_5 _ (.inr ⟨_, _, he, .inl h⟩) rfl))).lt; omega)
      have nl1_2_6 : ∀ k, ob so1_2 k → k ≠ b6 := fun k hk => (bk1L_2 k hk).elim ((fun _ h => ob_none h) k) (fun h => by have := (((Bs2.ext E4).fr E5 (fun h => nb1 _ (.inr ⟨_, _, he, .inl h⟩) rfl))).lt; omega)
      have nl1_3_1 : ∀ k, ob so1_3 k → k ≠ b1 := fun k hk => (bk1L_3 k hk).elim ((fun _ h => ob_none h) k) (fun h => by have := ((((((((((((B1.ext Eb2).ext Eb3).ext Eb4).ext Eb5).ext E1).ext E2).ext E3).ext Eb6).ne Es2 (by omega)).ext E4).fr E5 (fun h => tn2_1 _ (.inr ⟨_, _, he, .inl h⟩) rfl))).lt; omega)
      have nl1_3_2 : ∀ k, ob so1_3 k → k ≠ b2 := fun k hk => (bk1L_3 k hk).elim ((fun _ h => ob_none h) k) (fun h => by have := (((((((((((B2.ext Eb3).ext Eb4).ext Eb5).ext E1).ext E2).ext E3).ext Eb6).ne Es2 (by omega)).ext E4).fr E5 (fun h => tn2_2 _ (.inr ⟨_, _, he, .inl h⟩) rfl))).lt; omega)
      have nl1_3_3 : ∀ k, ob so1_3 k → k ≠ b3 := fun k hk => (bk1L_3 k hk).elim ((fun _ h => ob_none h) k) (fun h => by have := ((((((((((B3.ext Eb4).ext Eb5).ext E1).ext E2).ext E3).ext Eb6).ne Es2 (by omega)).ext E4).fr E5 (fun h => tn2_3 _ (.inr ⟨_, _, he, .inl h⟩) rfl))).lt; omega)
      have nl1_3_4 : ∀ k, ob so1_3 k → k ≠ b4 := fun k hk => (bk1L_3 k hk).elim ((fun _ h => ob_none h) k) (fun h => by have := (((((((((B4.ext Eb5).ext E1).ext E2).ext E3).ext Eb6).ne Es2 (by omega)).ext E4).fr E5 (fun h => tn2_4 _ (.inr ⟨_, _, he, .inl h⟩) rfl))).lt; omega)
      have nl1_3_5 : ∀ k, ob so1_3 k → k ≠ b5 := fun k hk => (bk1L_3 k hk).elim ((fun _ h => ob_none h) k) (fun h => by have := ((((((((B5.ext E1).ext E2).ext E3).ext Eb6).ne Es2 (by omega)).ext E4).fr E5 (fun h => tn2_5 _ (.inr ⟨_, _, he, .inl h⟩) rfl))).lt; omega)
      have nl1_3_6 : ∀ k, ob so1_3 k → k ≠ b6 := fun k hk => (bk1L_3 k hk).elim ((fun _ h => ob_none h) k) (fun h => by have := (((Bs2.ext E4).fr E5 (fun h => nb1 _ (.inr ⟨_, _, he, .inl h⟩) rfl))).lt; omega)
      have stl1_1_2 : ∀ k, mtb (some (⟨bT, oT, none⟩ : Addr)) (TC.set (num s2) (((some (⟨bA, oA, none⟩ : Addr)), cA, x.1.set (num ix) y), (sB, cB, x.2))) k → ob so1_2 k → False := fun k hk h2 => (bk1L_2 k h2).elim (fun h => (fun _ _ h => ob_none h) k hk h) (fun h => by have := (tw1).lt hk; omega)
      have stl1_1_3 : ∀ k, mtb (some (⟨bT, oT, none⟩ : Addr)) (TC.set (num s2) (((some (⟨bA, oA, none⟩ : Addr)), cA, x.1.set (num ix) y), (sB, cB, x.2))) k → ob so1_3 k → False := fun k hk h2 => (bk1L_3 k h2).elim (fun h => (fun _ _ h => ob_none h) k hk h) (fun h => by have := (tw1).lt hk; omega)
      refine wk_seq ?_
      refine wk_seq ?_
      refine wk_region ?_
      refine lx_value (want rfl) (mv_int hs1_15) ?_
      refine lx_value (want rfl) (mv_pointer (A1.at 12 rfl rfl)) ?_
      refine lx_value (want rfl) (rn_nilCheck rfl) ?_
      refine lx_value (want rfl) (rn_fieldAddr fa_65_1 rfl) ?_
      refine lx_value (want rfl) (rn_load1 ag_63 rfl (show _ = some (Value.slice sB x.2.length cB) from MTab.cellB (tw1.ext EL1) he2)) ?_
      refine lx_value (want rfl) (rn_len Tryz.underlying63 rfl) ?_
      refine lx_value (want rfl) (rn_lss rfl rfl) ?_
      refine lx_dec (fun hlt2 => ?_) (fun hlt2 => ?_)
      ·
        obtain ⟨r, hr⟩ := getx hlt2
        obtain ⟨bB, oB, hsB⟩ := own_some ((tw1.ext EL1).ownB _ _ he2) (show 0 < x.2.length by omega)
        have hl1 := toldW_len x.2 ix.2 y i
        have hl2 := restW_len x.2 ix.2 i
        refine lx_nil ?_
        refine wk_cond_t rfl ?_
        refine wk_skip ?_
        refine wk_seq ?_
        refine wk_block ?_
        refine wk_seq ?_
        refine wk_mix 10 (fun _ => .none) (by kernel_rfl) (by kernel_rfl) (fun kS G hk => by cases hk) (fun kS s y G hk => by cases hk) ?_
        simp only [List.take_succ_cons, List.take_zero, List.take_nil, List.drop_succ_cons, List.drop_zero, List.drop_nil]
        refine mx_calm rfl (want rfl) (fun u17 eu17 fu17 => mv_pointer (A1.at 12 rfl rfl)) ?_
        refine mx_calm rfl (want rfl) (fun u18 eu18 fu18 => rn_nilCheck rfl) ?_
        refine mx_calm rfl (want rfl) (fun u19 eu19 fu19 => rn_fieldAddr fa_65_1 rfl) ?_
        refine mx_calm rfl (want rfl) (fun u20 eu20 fu20 => rn_load1 ag_63 rfl (show _ = some (Value.slice (some ⟨bB, oB, none⟩) x.2.length cB) from by rw [← hsB]; exact MTab.cellB ((tw1.ext EL1).ext ((ext_drawn _).trans' eu20)) he2)) ?_
        refine mx_calm rfl (want rfl) (fun u21 eu21 fu21 => mv_int hs1_15) ?_
        refine mx_calm rfl (want rfl) (fun u22 eu22 fu22 => rn_index _ Tryz.underlying63 sz_115 rfl rfl rfl (by omega)) ?_
        refine mx_calm rfl (want rfl) (fun u23 eu23 fu23 => rn_fieldAddr fa_115_0 rfl) ?_
        refine mx_calm rfl (want rfl) (fun u24 eu24 fu24 => rn_load1 ag_3 rfl (rd_cell (((tw1.ext EL1).ext ((ext_drawn _).trans' eu24)).ownB _ _ he2) hsB hr 0 _ rfl)) ?_
        refine mx_calm rfl (want rfl) (fun u25 eu25 fu25 => rn_fieldAddr fa_36_1 (A1.at 6 rfl rfl)) ?_
        refine mx_calm rfl (want rfl) (fun u26 eu26 fu26 => rn_load1Blk ag_3 rfl (((((((((((B3.ext Eb4).ext Eb5).ext E1).ext E2).ext E3).ext Eb6).ne Es2 (by omega)).ext E4).fr E5 (fun h => tn2_3 _ (.inr ⟨_, _, he, .inl h⟩) rfl)).ext EL1).ext ((ext_drawn _).trans' eu26)) rfl) ?_
        refine mx_nil (fun w14 E6' H3 HS => ?_)
        have E6 := (ext_drawn _).trans' E6'
        have F15 := F14.ext E6
        have hz6 := E6.size
        refine lx_value (want rfl) (rn_eql rfl rfl) ?_
        refine lx_dec (fun h70 => ?_) (fun h70 => ?_)
        ·
          have hq1 := toldW_y (y := y) hr h70
          have hq2 := restW_n hr h70
          refine lx_nil ?_
          refine wk_cond_t rfl ?_
          have hOw := (ow1L_2.ext E6)
          have hSl : ∀ k, (ob so1_2) k → k < w14.heap.size := fun k h => ((ow1L_2.ext E6)).lt h
          refine wk_mixA 13 12 (ob so1_2) (fun kS => match kS with | 11 => .any (fun I v w => ∃ b, v = .slice (some ⟨b, 0, none⟩) 1 1 ∧ w14.heap.size ≤ b ∧ (I.1 ≤ b ∧ b < I.2) ∧ Blk w b [.int .i64 r.2, .int .u8 y.1, .int .i64 y.2] 106) | 12 => .any (fun I v w => ∃ s c, v = .slice s ((toldW x.2 ix.2 y i).length + 1) c ∧ OwnS w 106 3 s ((toldW x.2 ix.2 y i).length + 1) c (((toldW x.2 ix.2 y i).flatMap tlC) ++ [.int .i64 r.2, .int .u8 y.1, .int .i64 y.2]) ∧ ∀ k, ob s k → (ob so1_2 k ∨ w14.heap.size ≤ k)) | _ => .none) (by kernel_rfl) (by kernel_rfl) (by intro kS G hk; (try dsimp only at hk); (split at hk) <;> first | (cases hk; done) | (injection hk with hk; subst hk; exact ⟨by intro j hkj I v w w' hR hG; first | exact hG | (obtain ⟨b, h1, h2, hI, h3⟩ := hG; exact ⟨b, h1, h2, hI, h3.fr (mS hR) (fun hs => by have := hOw.lt hs; omega)⟩) | (obtain ⟨s, c, h1, h2, h3⟩ := hG; exact ⟨s, c, h1, h2.ext (mT hkj hR), h3⟩), fun ⟨_, _, _, _, hs⟩ => by (try dsimp only at hs); split at hs <;> cases hs⟩)) (by intro kS s y G hk; (try dsimp only at hk); split at hk <;> cases hk) ?_
          simp only [List.take_succ_cons, List.take_zero, List.take_nil, List.drop_succ_cons, List.drop_zero, List.drop_nil]
          refine mx_calm rfl (want rfl) (fun u27 eu27 fu27 => mv_slice ho1_2) ?_
          refine mx_calm rfl (want rfl) (fun u28 eu28 fu28 => mv_pointer (A1.at 12 rfl rfl)) ?_
          refine mx_calm rfl (want rfl) (fun u29 eu29 fu29 => rn_nilCheck rfl) ?_
          refine mx_calm rfl (want rfl) (fun u30 eu30 fu30 => rn_fieldAddr fa_65_1 rfl) ?_
          refine mx_calm rfl (want rfl) (fun u31 eu31 fu31 => rn_load1 ag_63 rfl (show _ = some (Value.slice (some ⟨bB, oB, none⟩) x.2.length cB) from by rw [← hsB]; exact MTab.cellB (((tw1.ext EL1).ext E6).fr (mD (by decide) eu31) (fun k h1 h2 => stl1_1_2 k h1 h2)) he2)) ?_
          refine mx_calm rfl (want rfl) (fun u32 eu32 fu32 => mv_int hs1_15) ?_
          refine mx_calm rfl (want rfl) (fun u33 eu33 fu33 => rn_index _ Tryz.underlying63 sz_115 rfl rfl rfl (by omega)) ?_
          refine mx_calm rfl (want rfl) (fun u34 eu34 fu34 => rn_fieldAddr fa_115_1 rfl) ?_
          refine mx_calm rfl (want rfl) (fun u35 eu35 fu35 => rn_load1 ag_3 rfl (rd_cell ((((tw1.ext EL1).ext E6).fr (mD (by decide) eu35) (fun k h1 h2 => stl1_1_2 k h1 h2)).ownB _ _ he2) hsB hr 1 _ rfl)) ?_
          refine mx_calm rfl (want rfl) (fun u36 eu36 fu36 => rn_loadBlk ag_36 sz_36 (A1.at 7 rfl rfl) (((((((((((B4.ext Eb5).ext E1).ext E2).ext E3).ext Eb6).ne Es2 (by omega)).ext E4).fr E5 (fun h => tn2_4 _ (.inr ⟨_, _, he, .inl h⟩) rfl)).ext EL1).ext E6).fr (mD (by decide) eu36) (fun h => nl1_2_4 _ h rfl)) rfl rfl) ?_
          refine mx_calm rfl (want rfl) (fun u37 eu37 fu37 => rn_build2 (t_int rfl) (t_agg rfl) (fun w => bd_106_0_1 _ _ _ w)) ?_
          refine mx_any rfl rfl (want rfl) (fun u38 eu38 fu38 => (do_newS2 (rn_bslice (xs := [.tmp 81]) Tryz.underlying31 sz_106 ze_106 rfl (argsC (t_agg rfl) args0) (CL.cons rfl rfl CL.nil) rfl (Nat.le_of_ble_eq_true rfl)) (show _ ≤ _ from ((mD (by decide) eu38)).size)).mono (fun v w' h => ⟨(mE (by decide) h.1), h.2⟩)) (fun I82 v82 => ?_)
          refine mx_any rfl rfl (want rfl) (fun u39 eu39 fu39 => by obtain ⟨bS, rfl, hbS, _, hBS⟩ := fu39 82 _ rfl (show (82 : Nat) ∈ _ from by decide); exact do_append 24 Tryz.underlying31 ti_106 (by decide) rfl (by decide) rfl rfl ((ow1L_2.ext E6).ext (mC eu39)) (Src.blk hBS rfl rfl) (by omega) (fun sA cA wA AP => ⟨(mF AP.fr), ⟨sA, cA, rfl, AP.own, fun k hk => (AP.blk k hk).elim .inl (fun h => .inr (Nat.le_trans (mC eu39).size h))⟩⟩)) (fun I83 v83 => ?_)
          refine mx_nil (fun w15 E7' H4 HS => ?_)
          have E7 := mG E7'
          have hI83 := (HS.1 83 _ rfl).2
          have hI82 := (HS.1 82 _ rfl).2
          have hX83_82 := HS.2 83 _ 82 _ rfl rfl (show (83 : Nat) ≠ 82 from by decide)
          simp only at hI83
          simp only at hI82
          simp only at hX83_82
          have g83 := H4 83 _ rfl
          obtain ⟨sq4, cq4, rfl, hO4, hI4⟩ := g83
          have g82 := H4 82 _ rfl
          have AP4 : Apd w14 _ _ so1_2 _ _ sq4 cq4 w15 := ⟨hO4, E7, hI4⟩
          have EA4 := AP4.fr
          have ow4 := AP4.own
          have ge4 : ∀ k, ob sq4 k → w0.heap.size ≤ k := fun k hk => (AP4.blk k hk).elim (ge1L_2 k) (fun h => (Nat.le_trans F15.size h))
          have ne4_1 : ∀ k, ob sq4 k → k ≠ b1 := fun k hk => (AP4.blk k hk).elim (nl1_2_1 k) (fun h => by have := ((((((((((((((B1.ext Eb2).ext Eb3).ext Eb4).ext Eb5).ext E1).ext E2).ext E3).ext Eb6).ne Es2 (by omega)).ext E4).fr E5 (fun h => tn2_1 _ (.inr ⟨_, _, he, .inl h⟩) rfl)).ext EL1).ext E6)).lt; omega)
          have ne4_2 : ∀ k, ob sq4 k → k ≠ b2 := fun k hk => (AP4.blk k hk).elim (nl1_2_2 k) (fun h => by have := (((((((((((((B2.ext Eb3).ext Eb4).ext Eb5).ext E1).ext E2).ext E3).ext Eb6).ne Es2 (by omega)).ext E4).fr E5 (fun h => tn2_2 _ (.inr ⟨_, _, he, .inl h⟩) rfl)).ext EL1).ext E6)).lt; omega)
          have ne4_3 : ∀ k, ob sq4 k → k ≠ b3 := fun k hk => (AP4.blk k hk).elim (nl1_2_3 k) (fun h => by have := ((((((((((((B3.ext Eb4).ext Eb5).ext E1).ext E2).ext E3).ext Eb6).ne Es2 (by omega)).ext E4).fr E5 (fun h => tn2_3 _ (.inr ⟨_, _, he, .inl h⟩) rfl)).ext EL1).ext E6)).lt; omega)
          have ne4_4 : ∀ k, ob sq4 k → k ≠ b4 := fun k hk => (AP4.blk k hk).elim (nl1_2_4 k) (fun h => by have := (((((((((((B4.ext Eb5).ext E1).ext E2).ext E3).ext Eb6).ne Es2 (by omega)).ext E4).fr E5 (fun h => tn2_4 _ (.inr ⟨_, _, he, .inl h⟩) rfl)).ext EL1).ext E6)).lt; omega)
          have ne4_5 : ∀ k, ob sq4 k → k ≠ b5 := fun k hk => (AP4.blk k hk).elim (nl1_2_5 k) (fun h => by have := ((((((((((B5.ext E1).ext E2).ext E3).ext Eb6).ne Es2 (by omega)).ext E4).fr E5 (fun h => tn2_5 _ (.inr ⟨_, _, he, .inl h⟩) rfl)).ext EL1).ext E6)).lt; omega)
          have ne4_6 : ∀ k, ob sq4 k → k ≠ b6 := fun k hk => (AP4.blk k hk).elim (nl1_2_6 k) (fun h => by have := (((((Bs2.ext E4).fr E5 (fun h => nb1 _ (.inr ⟨_, _, he, .inl h⟩) rfl)).ext EL1).ext E6)).lt; omega)
          have sp4_3 : ∀ k, ob sq4 k → ob so1_3 k → False := fun k hk h2 => (AP4.blk k hk).elim (fun h => sp1L_2_3 k h h2) (fun h => by have := ((ow1L_3.ext E6)).lt h2; omega)
          have bk4_1 : ∀ k, ob sq4 k → (ob (none : Option Addr) k ∨ w12.heap.size ≤ k) := fun k hk => (AP4.blk k hk).elim (bk1L_2 k) (fun h => .inr (by omega))
          have F16 := F15.new EA4 ge1L_2
          have hzA4 := EA4.size
          have BA4_1 := (((((((((((((B1.ext Eb2).ext Eb3).ext Eb4).ext Eb5).ext E1).ext E2).ext E3).ext Eb6).ne Es2 (by omega)).ext E4).fr E5 (fun h => tn2_1 _ (.inr ⟨_, _, he, .inl h⟩) rfl)).ext EL1).ext E6).fr EA4 (fun h => nl1_2_1 _ h rfl)
          have BA4_2 := ((((((((((((B2.ext Eb3).ext Eb4).ext Eb5).ext E1).ext E2).ext E3).ext Eb6).ne Es2 (by omega)).ext E4).fr E5 (fun h => tn2_2 _ (.inr ⟨_, _, he, .inl h⟩) rfl)).ext EL1).ext E6).fr EA4 (fun h => nl1_2_2 _ h rfl)
          have BA4_3 := (((((((((((B3.ext Eb4).ext Eb5).ext E1).ext E2).ext E3).ext Eb6).ne Es2 (by omega)).ext E4).fr E5 (fun h => tn2_3 _ (.inr ⟨_, _, he, .inl h⟩) rfl)).ext EL1).ext E6).fr EA4 (fun h => nl1_2_3 _ h rfl)
          have BA4_4 := ((((((((((B4.ext Eb5).ext E1).ext E2).ext E3).ext Eb6).ne Es2 (by omega)).ext E4).fr E5 (fun h => tn2_4 _ (.inr ⟨_, _, he, .inl h⟩) rfl)).ext EL1).ext E6).fr EA4 (fun h => nl1_2_4 _ h rfl)
          have BA4_5 := (((((((((B5.ext E1).ext E2).ext E3).ext Eb6).ne Es2 (by omega)).ext E4).fr E5 (fun h => tn2_5 _ (.inr ⟨_, _, he, .inl h⟩) rfl)).ext EL1).ext E6).fr EA4 (fun h => nl1_2_5 _ h rfl)
          have BA4_6 := ((((Bs2.ext E4).fr E5 (fun h => nb1 _ (.inr ⟨_, _, he, .inl h⟩) rfl)).ext EL1).ext E6).fr EA4 (fun h => nl1_2_6 _ h rfl)
          have oA4_3 := (ow1L_3.ext E6).fr EA4 (fun k h1 h2 => sp1L_2_3 k h2 h1)
          have sr4_3 : ∀ k, ob so1_3 k → ob sq4 k → False := fun k h1 h2 => sp4_3 k h2 h1
          have sa4_1 : ∀ k, mtb (some (⟨bT, oT, none⟩ : Addr)) (TC.set (num s2) (((some (⟨bA, oA, none⟩ : Addr)), cA, x.1.set (num ix) y), (sB, cB, x.2))) k → ob sq4 k → False := fun k hk h2 => (AP4.blk k h2).elim (fun h => stl1_1_2 k hk h) (fun h => by have := (((tw1.ext EL1).ext E6)).lt hk; omega)
          refine lx_value (want rfl) (as_slice rfl) ?_
          refine lx_nil ?_
          refine wk_region ?_
          refine lx_value (want rfl) (mv_int hs1_15) ?_
          refine lx_value (want rfl) (rn_add rfl rfl (by omega)) ?_
          refine lx_value (want rfl) (as_int rfl) ?_
          refine lx_nil ?_
          exact ⟨rfl, (((((((((((((((((((((((((((((((((((A1.up rfl _).up rfl _).up rfl _).up rfl _).up rfl _).up rfl _).up rfl _).up rfl _).up rfl _).up rfl _).up rfl _).up rfl _).up rfl _).up rfl _).up rfl _).up rfl _).up rfl _).up rfl _).up rfl _).up rfl _).up rfl _).up rfl _).up rfl _).up rfl _).up rfl _).up rfl _).up rfl _).up rfl _).up rfl _).up rfl _).up rfl _).up rfl _).up rfl _).up rfl _).up rfl _), (Fr.trans (Fr.ext EL1 E6) EA4 (fun i hi1 h => ((bk1L_2 _ h).elim (fun h => (ob_none h)) (fun h => absurd hi1 (by omega))))), _, (by omega), i + 1, sq4, cq4, so1_3, co1_3, rfl, rfl, (by rw [hq1]; first | exact rfl | (rw [List.length_append]; exact rfl)), (by rw [hq1]; first | exact ow4 | exact own_more ow4 rfl), ge4, bk4_1, (by rw [hq2]; first | exact ho1_3 | (rw [List.length_append]; exact ho1_3)), (by rw [hq2]; first | exact oA4_3 | exact own_more oA4_3 rfl), ge1L_3, bk1L_3, sp4_3, by have := (List.getElem?_eq_some_iff.1 hr).1; omega⟩
        ·
          have hq1 := toldW_n (y := y) hr h70
          have hq2 := restW_y hr h70
          refine lx_nil ?_
          refine wk_cond_f rfl ?_
          refine wk_region ?_
          refine lx_value (want rfl) (mv_slice ho1_3) ?_
          refine lx_value (want rfl) (mv_pointer (A1.at 12 rfl rfl)) ?_
          refine lx_value (want rfl) (rn_nilCheck rfl) ?_
          refine lx_value (want rfl) (rn_fieldAddr fa_65_1 rfl) ?_
          refine lx_value (want rfl) (rn_load1 ag_63 rfl (show _ = some (Value.slice (some ⟨bB, oB, none⟩) x.2.length cB) from by rw [← hsB]; exact MTab.cellB ((tw1.ext EL1).ext E6) he2)) ?_
          refine lx_value (want rfl) (mv_int hs1_15) ?_
          refine lx_value (want rfl) (rn_index _ Tryz.underlying63 sz_115 rfl rfl rfl (by omega)) ?_
          refine lx_value (want rfl) (rn_load2 ag_115 sz_115 rfl (rd_cell (((tw1.ext EL1).ext E6).ownB _ _ he2) hsB hr 0 _ rfl) (rd_cell (((tw1.ext EL1).ext E6).ownB _ _ he2) hsB hr 1 _ rfl)) ?_
          refine lx_newS (want rfl) (rn_bslice (xs := [.tmp 91]) Tryz.underlying63 sz_115 ze_115 rfl (argsC (t_agg rfl) args0) (CL.cons rfl rfl CL.nil) rfl (Nat.le_of_ble_eq_true rfl)) ?_
          intro b7 w15 hb7 Eb7 B7 hlb7
          have F17 := F15.ext Eb7
          have hzb7 := Eb7.size
          have nb2 : ∀ k, ob so1_2 k → k ≠ b7 := fun k hk => by have := (ow1L_2).lt hk; omega
          have nb3 : ∀ k, ob so1_3 k → k ≠ b7 := fun k hk => by have := (ow1L_3).lt hk; omega
          have nb4 : ∀ k, mtb (some (⟨bT, oT, none⟩ : Addr)) (TC.set (num s2) (((some (⟨bA, oA, none⟩ : Addr)), cA, x.1.set (num ix) y), (sB, cB, x.2))) k → k ≠ b7 := fun k hk => by have := (tw1).lt hk; omega
          refine lx_append 16 (want rfl) Tryz.underlying63 ti_115 (by decide) rfl (by decide) rfl rfl ((ow1L_3.ext E6).ext Eb7) ((Src.blk B7 rfl rfl)) (by omega) ?_
          intro sq5 cq5 w16 AP5
          have EA5 := AP5.fr
          have ow5 := AP5.own
          have ge5 : ∀ k, ob sq5 k → w0.heap.size ≤ k := fun k hk => (AP5.blk k hk).elim (ge1L_3 k) (fun h => (Nat.le_trans F17.size h))
          have ne5_1 : ∀ k, ob sq5 k → k ≠ b1 := fun k hk => (AP5.blk k hk).elim (nl1_3_1 k) (fun h => by have := (((((((((((((((B1.ext Eb2).ext Eb3).ext Eb4).ext Eb5).ext E1).ext E2).ext E3).ext Eb6).ne Es2 (by omega)).ext E4).fr E5 (fun h => tn2_1 _ (.inr ⟨_, _, he, .inl h⟩) rfl)).ext EL1).ext E6).ext Eb7)).lt; omega)
          have ne5_2 : ∀ k, ob sq5 k → k ≠ b2 := fun k hk => (AP5.blk k hk).elim (nl1_3_2 k) (fun h => by have := ((((((((((((((B2.ext Eb3).ext Eb4).ext Eb5).ext E1).ext E2).ext E3).ext Eb6).ne Es2 (by omega)).ext E4).fr E5 (fun h => tn2_2 _ (.inr ⟨_, _, he, .inl h⟩) rfl)).ext EL1).ext E6).ext Eb7)).lt; omega)
          have ne5_3 : ∀ k, ob sq5 k → k ≠ b3 := fun k hk => (AP5.blk k hk).elim (nl1_3_3 k) (fun h => by have := (((((((((((((B3.ext Eb4).ext Eb5).ext E1).ext E2).ext E3).ext Eb6).ne Es2 (by omega)).ext E4).fr E5 (fun h => tn2_3 _ (.inr ⟨_, _, he, .inl h⟩) rfl)).ext EL1).ext E6).ext Eb7)).lt; omega)
          have ne5_4 : ∀ k, ob sq5 k → k ≠ b4 := fun k hk => (AP5.blk k hk).elim (nl1_3_4 k) (fun h => by have := ((((((((((((B4.ext Eb5).ext E1).ext E2).ext E3).ext Eb6).ne Es2 (by omega)).ext E4).fr E5 (fun h => tn2_4 _ (.inr ⟨_, _, he, .inl h⟩) rfl)).ext EL1).ext E6).ext Eb7)).lt; omega)
          have ne5_5 : ∀ k, ob sq5 k → k ≠ b5 := fun k hk => (AP5.blk k hk).elim (nl1_3_5 k) (fun h => by have := (((((((((((B5.ext E1).ext E2).ext E3).ext Eb6).ne Es2 (by omega)).ext E4).fr E5 (fun h => tn2_5 _ (.inr ⟨_, _, he, .inl h⟩) rfl)).ext EL1).ext E6).ext Eb7)).lt; omega)
          have ne5_6 : ∀ k, ob sq5 k → k ≠ b6 := fun k hk => (AP5.blk k hk).elim (nl1_3_6 k) (fun h => by have := ((((((Bs2.ext E4).fr E5 (fun h => nb1 _ (.inr ⟨_, _, he, .inl h⟩) rfl)).ext EL1).ext E6).ext Eb7)).lt; omega)
          have ne5_7 : ∀ k, ob sq5 k → k ≠ b7 := fun k hk => (AP5.blk k hk).elim (nb3 k) (fun h => by have := (B7).lt; omega)
          have sp5_2 : ∀ k, ob sq5 k → ob so1_2 k → False := fun k hk h2 => (AP5.blk k hk).elim (fun h => (fun k h1 h2 => sp1L_2_3 k h2 h1) k h h2) (fun h => by have := (((ow1L_2.ext E6).ext Eb7)).lt h2; omega)
          have bk5_1 : ∀ k, ob sq5 k → (ob (none : Option Addr) k ∨ w12.heap.size ≤ k) := fun k hk => (AP5.blk k hk).elim (bk1L_3 k) (fun h => .inr (by omega))
          have F18 := F17.new EA5 ge1L_3
          have hzA5 := EA5.size
          have BA5_1 := ((((((((((((((B1.ext Eb2).ext Eb3).ext Eb4).ext Eb5).ext E1).ext E2).ext E3).ext Eb6).ne Es2 (by omega)).ext E4).fr E5 (fun h => tn2_1 _ (.inr ⟨_, _, he, .inl h⟩) rfl)).ext EL1).ext E6).ext Eb7).fr EA5 (fun h => nl1_3_1 _ h rfl)
          have BA5_2 := (((((((((((((B2.ext Eb3).ext Eb4).ext Eb5).ext E1).ext E2).ext E3).ext Eb6).ne Es2 (by omega)).ext E4).fr E5 (fun h => tn2_2 _ (.inr ⟨_, _, he, .inl h⟩) rfl)).ext EL1).ext E6).ext Eb7).fr EA5 (fun h => nl1_3_2 _ h rfl)
          have BA5_3 := ((((((((((((B3.ext Eb4).ext Eb5).ext E1).ext E2).ext E3).ext Eb6).ne Es2 (by omega)).ext E4).fr E5 (fun h => tn2_3 _ (.inr ⟨_, _, he, .inl h⟩) rfl)).ext EL1).ext E6).ext Eb7).fr EA5 (fun h => nl1_3_3 _ h rfl)
          have BA5_4 := (((((((((((B4.ext Eb5).ext E1).ext E2).ext E3).ext Eb6).ne Es2 (by omega)).ext E4).fr E5 (fun h => tn2_4 _ (.inr ⟨_, _, he, .inl h⟩) rfl)).ext EL1).ext E6).ext Eb7).fr EA5 (fun h => nl1_3_4 _ h rfl)
          have BA5_5 := ((((((((((B5.ext E1).ext E2).ext E3).ext Eb6).ne Es2 (by omega)).ext E4).fr E5 (fun h => tn2_5 _ (.inr ⟨_, _, he, .inl h⟩) rfl)).ext EL1).ext E6).ext Eb7).fr EA5 (fun h => nl1_3_5 _ h rfl)
          have BA5_6 := (((((Bs2.ext E4).fr E5 (fun h => nb1 _ (.inr ⟨_, _, he, .inl h⟩) rfl)).ext EL1).ext E6).ext Eb7).fr EA5 (fun h => nl1_3_6 _ h rfl)
          have BA5_7 := B7.fr EA5 (fun h => nb3 _ h rfl)
          have oA5_2 := ((ow1L_2.ext E6).ext Eb7).fr EA5 (fun k h1 h2 => (fun k h1 h2 => sp1L_2_3 k h2 h1) k h2 h1)
          have sr5_2 : ∀ k, ob so1_2 k → ob sq5 k → False := fun k h1 h2 => sp5_2 k h2 h1
          have sa5_1 : ∀ k, mtb (some (⟨bT, oT, none⟩ : Addr)) (TC.set (num s2) (((some (⟨bA, oA, none⟩ : Addr)), cA, x.1.set (num ix) y), (sB, cB, x.2))) k → ob sq5 k → False := fun k hk h2 => (AP5.blk k h2).elim (fun h => stl1_1_3 k hk h) (fun h => by have := ((((tw1.ext EL1).ext E6).ext Eb7)).lt hk; omega)
          refine lx_value (want rfl) (as_slice rfl) ?_
          refine lx_nil ?_
          refine wk_region ?_
          refine lx_value (want rfl) (mv_int hs1_15) ?_
          refine lx_value (want rfl) (rn_add rfl rfl (by omega)) ?_
          refine lx_value (want rfl) (as_int rfl) ?_
          refine lx_nil ?_
          exact ⟨rfl, ((((((((((((((((((((((((((((((((A1.up rfl _).up rfl _).up rfl _).up rfl _).up rfl _).up rfl _).up rfl _).up rfl _).up rfl _).up rfl _).up rfl _).up rfl _).up rfl _).up rfl _).up rfl _).up rfl _).up rfl _).up rfl _).up rfl _).up rfl _).up rfl _).up rfl _).up rfl _).up rfl _).up rfl _).up rfl _).up rfl _).up rfl _).up rfl _).up rfl _).up rfl _).up rfl _), (Fr.trans (Fr.ext (Fr.ext EL1 E6) Eb7) EA5 (fun i hi1 h => ((bk1L_3 _ h).elim (fun h => (ob_none h)) (fun h => absurd hi1 (by omega))))), _, (by omega), i + 1, so1_2, co1_2, sq5, cq5, rfl, rfl, (by rw [hq1]; first | exact ho1_2 | (rw [List.length_append]; exact ho1_2)), (by rw [hq1]; first | exact oA5_2 | exact own_more oA5_2 rfl), ge1L_2, bk1L_2, (by rw [hq2]; first | exact rfl | (rw [List.length_append]; exact rfl)), (by rw [hq2]; first | exact ow5 | exact own_more ow5 rfl), ge5, bk5_1, sr5_2, by have := (List.getElem?_eq_some_iff.1 hr).1; omega⟩
      ·
        refine lx_nil ?_
        refine wk_cond_f rfl ?_
        refine wk_exit ?_
        refine wk_seq ?_
        refine wk_region ?_
        refine lx_value (want rfl) (mv_pointer (A1.at 12 rfl rfl)) ?_
        refine lx_value (want rfl) (mv_slice ho1_3) ?_
        refine lx_value (want rfl) (rn_nilCheck rfl) ?_
        refine lx_value (want rfl) (rn_fieldAddr fa_65_1 rfl) ?_
        have hM6 := (tw1.ext EL1)
        have hW6 := ow1L_3
        refine lx_owncell (j := (num s2) * 2 + 1) (want rfl) sz_63 rfl (t_slice rfl) rfl rfl rfl hM6.out (by have := (List.getElem?_eq_some_iff.1 he2).1; omega) ?_
        intro w14 E8' HO6
        have E8 : Fr (ob (some (⟨bT, oT, none⟩ : Addr))) _ _ := E8'.mono (fun i _ hi => ⟨_, _, by subst hi; rfl⟩)
        have F19 := F14.new E8 (fun k h => tg3 k (.inl h))
        have hz8 := E8.size
        obtain ⟨tw6, ti6⟩ := MTab.set (e' := (((some (⟨bA, oA, none⟩ : Addr)), cA, x.1.set (num ix) y), (so1_3, co1_3, restW x.2 ix.2 i))) hM6 he2 (Fr.refl _ _) (by have h := hM6.ownA _ _ he2; exact h) (by skip; exact hW6) (fun k h1 h2 => stl1_1_3 k (.inr ⟨_, _, he2, .inl h1⟩) h2) (fun k h => h.elim (fun h => .inl (.inl h)) (fun h => .inr (fun hm => stl1_1_3 k hm h))) E8 (by rw [← flat_setB he2]; skip; exact HO6)
        have tg4 : ∀ k, mtb (some (⟨bT, oT, none⟩ : Addr)) ((TC.set (num s2) (((some (⟨bA, oA, none⟩ : Addr)), cA, x.1.set (num ix) y), (sB, cB, x.2))).set (num s2) (((some (⟨bA, oA, none⟩ : Addr)), cA, x.1.set (num ix) y), (so1_3, co1_3, restW x.2 ix.2 i))) k → w0.heap.size ≤ k := fun k hk => (ti6 k hk).elim (fun h => tg3 k h) (fun h => h.elim (fun h => tg3 k (.inr ⟨_, _, he2, .inl h⟩)) (fun h => ge1L_3 k h))
        have tn4_1 : ∀ k, mtb (some (⟨bT, oT, none⟩ : Addr)) ((TC.set (num s2) (((some (⟨bA, oA, none⟩ : Addr)), cA, x.1.set (num ix) y), (sB, cB, x.2))).set (num s2) (((some (⟨bA, oA, none⟩ : Addr)), cA, x.1.set (num ix) y), (so1_3, co1_3, restW x.2 ix.2 i))) k → k ≠ b1 := fun k hk => (ti6 k hk).elim (fun h => tn3_1 k h) (fun h => h.elim (fun h => tn3_1 k (.inr ⟨_, _, he2, .inl h⟩)) (fun h => nl1_3_1 k h))
        have tn4_2 : ∀ k, mtb (some (⟨bT, oT, none⟩ : Addr)) ((TC.set (num s2) (((some (⟨bA, oA, none⟩ : Addr)), cA, x.1.set (num ix) y), (sB, cB, x.2))).set (num s2) (((some (⟨bA, oA, none⟩ : Addr)), cA, x.1.set (num ix) y), (so1_3, co1_3, restW x.2 ix.2 i))) k → k ≠ b2 := fun k hk => (ti6 k hk).elim (fun h => tn3_2 k h) (fun h => h.elim (fun h => tn3_2 k (.inr ⟨_, _, he2, .inl h⟩)) (fun h => nl1_3_2 k h))
        have tn4_3 : ∀ k, mtb (some (⟨bT, oT, none⟩ : Addr)) ((TC.set (num s2) (((some (⟨bA, oA, none⟩ : Addr)), cA, x.1.set (num ix) y), (sB, cB, x.2))).set (num s2) (((some (⟨bA, oA, none⟩ : Addr)), cA, x.1.set (num ix) y), (so1_3, co1_3, restW x.2 ix.2 i))) k → k ≠ b3 := fun k hk => (ti6 k hk).elim (fun h => tn3_3 k h) (fun h => h.elim (fun h => tn3_3 k (.inr ⟨_, _, he2, .inl h⟩)) (fun h => nl1_3_3 k h))
        have tn4_4 : ∀ k, mtb (some (⟨bT, oT, none⟩ : Addr)) ((TC.set (num s2) (((some (⟨bA, oA, none⟩ : Addr)), cA, x.1.set (num ix) y), (sB, cB, x.2))).set (num s2) (((some (⟨bA, oA, none⟩ : Addr)), cA, x.1.set (num ix) y), (so1_3, co1_3, restW x.2 ix.2 i))) k → k ≠ b4 := fun k hk => (ti6 k hk).elim (fun h => tn3_4 k h) (fun h => h.elim (fun h => tn3_4 k (.inr ⟨_, _, he2, .inl h⟩)) (fun h => nl1_3_4 k h))
        have tn4_5 : ∀ k, mtb (some (⟨bT, oT, none⟩ : Addr)) ((TC.set (num s2) (((some (⟨bA, oA, none⟩ : Addr)), cA, x.1.set (num ix) y), (sB, cB, x.2))).set (num s2) (((some (⟨bA, oA, none⟩ : Addr)), cA, x.1.set (num ix) y), (so1_3, co1_3, restW x.2 ix.2 i))) k → k ≠ b5 := fun k hk => (ti6 k hk).elim (fun h => tn3_5 k h) (fun h => h.elim (fun h => tn3_5 k (.inr ⟨_, _, he2, .inl h⟩)) (fun h => nl1_3_5 k h))
        have tn4_6 : ∀ k, mtb (some (⟨bT, oT, none⟩ : Addr)) ((TC.set (num s2) (((some (⟨bA, oA, none⟩ : Addr)), cA, x.1.set (num ix) y), (sB, cB, x.2))).set (num s2) (((some (⟨bA, oA, none⟩ : Addr)), cA, x.1.set (num ix) y), (so1_3, co1_3, restW x.2 ix.2 i))) k → k ≠ b6 := fun k hk => (ti6 k hk).elim (fun h => tn3_6 k h) (fun h => h.elim (fun h => tn3_6 k (.inr ⟨_, _, he2, .inl h⟩)) (fun h => nl1_3_6 k h))
        have ts4_2 : ∀ k, mtb (some (⟨bT, oT, none⟩ : Addr)) ((TC.set (num s2) (((some (⟨bA, oA, none⟩ : Addr)), cA, x.1.set (num ix) y), (sB, cB, x.2))).set (num s2) (((some (⟨bA, oA, none⟩ : Addr)), cA, x.1.set (num ix) y), (so1_3, co1_3, restW x.2 ix.2 i))) k → ob so1_2 k → False := fun k hk h2 => (ti6 k hk).elim (fun h => stl1_1_2 k h h2) (fun h => h.elim (fun h => stl1_1_2 k (.inr ⟨_, _, he2, .inl h⟩) h2) (fun h => (fun k h1 h2 => sp1L_2_3 k h2 h1) k h h2))
        refine lx_nil ?_
        refine wk_seq ?_
        refine wk_region ?_
        refine lx_value (want rfl) (rn_loadBlk ag_24 sz_24 (A1.at 11 rfl rfl) ((((Bs2.ext E4).fr E5 (fun h => nb1 _ (.inr ⟨_, _, he, .inl h⟩) rfl)).ext EL1).fr E8 (fun h => tn3_6 _ (.inl h) rfl)) rfl rfl) ?_
        refine lx_value (want rfl) (mv_slice ho1_2) ?_
        refine lx_set (want rfl) sz_24 (A1.at 8 rfl rfl) (t_agg rfl) rfl rfl rfl (((((((((B5.ext E1).ext E2).ext E3).ext Eb6).ne Es2 (by omega)).ext E4).fr E5 (fun h => tn2_5 _ (.inr ⟨_, _, he, .inl h⟩) rfl)).ext EL1).fr E8 (fun h => tn3_5 _ (.inl h) rfl)) (Nat.le_of_ble_eq_true rfl) ?_
        intro w15 Es3 Bs3
        have F20 := F19.set Es3 (by omega)
        have hzs3 := Es3.size
        refine lx_value (want rfl) (as_slice rfl) ?_
        refine lx_value (want rfl) (as_int rfl) ?_
        refine lx_nil ?_
        refine wk_ret ?_
        refine retR3 Tryz.results89 (.cell (A1.at 8 rfl rfl) (run_loadVar_blk ag_24 sz_24 Bs3 rfl rfl)) (.tmp (t_slice rfl)) (.tmp (t_int rfl)) F20 ?_
        exact wr_new hf hsx hu h0 hlt2 (memO_new (tw6.fr Es3 (fun k hk h => tn4_5 k hk h)) (mtab_set2 hTC rfl) (by rw [List.length_set, List.length_set]) tg4) rfl (own_tl ((ow1L_2.fr E8 (fun k h1 h => stl1_1_2 k (.inl h) h1)).ne Es3 (fun h => nl1_2_5 _ h rfl)) ge1L_2)
  ·
    refine lx_value (want rfl) (rn_not rfl) ?_
    refine lx_nil ?_
    refine wk_cond_t rfl ?_
    refine wk_seq ?_
    refine wk_region ?_
    refine lx_value (want rfl) (rn_loadBlk ag_24 sz_24 rfl (((((B1.ext Eb2).ext Eb3).ext Eb4).ext Eb5).ext E1) rfl rfl) ?_
    refine lx_set (want rfl) sz_24 rfl (t_agg rfl) rfl rfl rfl (B5.ext E1) (Nat.le_of_ble_eq_true rfl) ?_
    intro w7 Es4 Bs4
    have F21 := F6.set Es4 (by omega)
    have hzs4 := Es4.size
    refine lx_value (want rfl) (as_slice rfl) ?_
    refine lx_value (want rfl) (as_int rfl) ?_
    refine lx_nil ?_
    refine wk_ret ?_
    refine retR3 Tryz.results89 (.cell rfl (run_loadVar_blk ag_24 sz_24 Bs4 rfl rfl)) (.tmp (t_slice rfl)) (.tmp (t_int rfl)) F21 ?_
    exact wr_no hf (memO_old (hm.fr (st_stab _) F21 (fun _ _ h => h)))

end Go.Proofs.YtnhgfmbmfjmonaaGreatDoor

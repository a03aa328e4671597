/- What functions compute: cellsdrawn. -/
import Derived.Test.YtnhgfmbmfjmonaaGreatDoorDrawnFacts
import Derived.Test.YtnhgfmbmfjmonaaGreatDoorDrawnPre
import Derived.Test.YtnhgfmbmfjmonaaGreatDoorDrawnWalk1
import Derived.Test.YtnhgfmbmfjmonaaGreatDoorDrawnWalk14
import Derived.Test.YtnhgfmbmfjmonaaGreatDoorDrawnWalk15
import Derived.Test.YtnhgfmbmfjmonaaGreatDoorDrawnWalk17
import Derived.Test.YtnhgfmbmfjmonaaGreatDoorDrawnWalk18
import Derived.Test.YtnhgfmbmfjmonaaGreatDoorDrawnWalk2
import Derived.Test.YtnhgfmbmfjmonaaGreatDoorDrawnWalk3
import Derived.Test.YtnhgfmbmfjmonaaGreatDoorDrawnWalk5
import Derived.Test.YtnhgfmbmfjmonaaGreatDoorDrawnWalk6
set_option maxRecDepth 100000
set_option linter.unusedVariables false
set_option linter.unusedSimpArgs false
namespace Go.Proofs.YtnhgfmbmfjmonaaGreatDoor
open Go Go.RowKit Go.Mix Go.Eng
set_option maxHeartbeats 4000000 in
set_option maxRecDepth 100000 in
theorem cellsdrawn_ct (p : Pic) (sv : Option Addr) (cv : Nat) (sk : Option Addr) (ck : Nat) (G : Nat → Prop) (w0 : World) (hv : VlS G w0 sv p.1) (hk : VvS G w0 sk p.2) :
    CT Tryz.prog 7 [.agg #[.slice sv p.1.length cv, .slice sk p.2.length ck]] w0 no (fun v _ => v = .bool true) := by
  have F0 := Fr.refl no w0
  refine ct_body Tryz.func7 rfl Tryz.ntmps7 (Nat.le_of_ble_eq_true rfl) ?_
  refine wk_seq ?_
  refine wk_region ?_
  refine lx_new (want rfl) (rn_box (t_agg rfl)) ?_
  intro b1 w1 hb1 Eb1 B1 hlb1
  have F1 := F0.ext Eb1
  have hzb1 := Eb1.size
  refine lx_value (want rfl) (as_bool rfl) ?_
  refine lx_nil ?_
  refine wk_seq ?_
  refine wk_seq ?_
  refine wk_region ?_
  refine lx_value (want rfl) (rn_loadBlk ag_45 sz_45 rfl B1 rfl rfl) ?_
  refine lx_call (want rfl) (ent_func cf_27 (argsC (t_agg rfl) args0)) (thinpic_ct p _ _ _ _ _ w1 (hv.fr (vl_stab _) F1 (fun _ _ h => h)) (hk.fr (vv_stab _) F1 (fun _ _ h => h))) ?_
  rintro _ w2 E1 rfl
  have F2 := F1.ext E1
  have hz1 := E1.size
  refine lx_split (fun ht => ?_) (fun ht => ?_)
  ·
    obtain ⟨hBp, h14⟩ := thinP_Bp ht
    refine lx_value (want rfl) (rn_not rfl) ?_
    refine lx_value (want rfl) (mv_bool rfl) ?_
    refine lx_value (want_if (j := 3) (d := 14) (x := false) (y := false) rfl rfl (by decide) rfl) (rn_loadBlk ag_45 sz_45 rfl (B1.ext E1) rfl rfl) ?_
    refine lx_call (want_if (j := 3) (d := 14) (x := false) (y := false) rfl rfl (by decide) rfl) (ent_func cf_34 (argsC (t_agg rfl) args0)) (refispic_ct p sv cv sk ck G hBp w2 (hv.fr (vl_stab _) F2 (fun _ _ h => h)) (hk.fr (vv_stab _) F2 (fun _ _ h => h))) ?_
    rintro _ w3 E2 rfl
    have F3 := F2.ext E2
    have hz2 := E2.size
    refine lx_split (fun hp => ?_) (fun hp => ?_)
    ·
      have hBm := memC_Bm hBp.2.1 hBp.2.2
      have hB1 := hBp.1
      have hpv := pic_vals hp
      have hBu : Bm (memC (upM p.2)) := memC_Bm (by rw [upM_len]; omega) (upM_bd hBp.2.2)
      refine lx_value (want_if (j := 3) (d := 14) (x := false) (y := false) rfl rfl (by decide) rfl) (rn_not rfl) ?_
      refine lx_value (want rfl) (pick_f rfl rfl) ?_
      refine lx_nil ?_
      refine wk_cond_f rfl ?_
      refine wk_skip ?_
      refine wk_seq ?_
      refine wk_region ?_
      refine lx_value (want rfl) (rn_loadBlk ag_45 sz_45 rfl ((B1.ext E1).ext E2) rfl rfl) ?_
      refine lx_call (want rfl) (ent_func cf_29 (argsC (t_agg rfl) args0)) (copypic_ct p sv cv sk ck G hBp w3 (hv.fr (vl_stab _) F3 (fun _ _ h => h)) (hk.fr (vv_stab _) F3 (fun _ _ h => h))) ?_
      rintro _ w4 E3 ⟨sA, cA, sB, cB, rfl, hPV, hPC⟩
      have F4 := F3.ext E3
      have hz3 := E3.size
      refine lx_call (want rfl) (ent_func cf_40 (argsC (t_agg rfl) args0)) ((mem_lit (memE_in hp) (pmemory_ct p sA cA sB cB _ hBp w4 hPV hPC))) ?_
      rintro _ w5 E4 ⟨mv, rfl, sM, cM, rfl, hMM⟩
      have F5 := F4.ext E4
      have hz4 := E4.size
      have hMZ := MZ.of hMM
      have hincm := fun (k : Nat) (hk : zz zn (Iv w4.heap.size w5.heap.size) k) => (Or.inr hk.1 : zz none (fun _ => False) k ∨ w4.heap.size ≤ k)
      have tg2 : ∀ k, zz zn (Iv w4.heap.size w5.heap.size) k → w0.heap.size ≤ k := fun k hk => (hincm k hk).elim ((fun _ h => zz_nil h) k) (fun h => by omega)
      have tn2_1 : ∀ k, zz zn (Iv w4.heap.size w5.heap.size) k → k ≠ b1 := fun k hk => (hincm k hk).elim ((fun _ h => zz_nil h) k) (fun h => by have := (B1).lt; omega)
      refine lx_value (want rfl) (mv_tuple rfl) ?_
      refine lx_value (want rfl) (rn_extract rfl rfl) ?_
      refine lx_value (want rfl) (rn_extract rfl rfl) ?_
      refine lx_new (want rfl) (rn_alloc ze_24) ?_
      intro b2 w6 hb2 Eb2 B2 hlb2
      have F6 := F5.ext Eb2
      have hzb2 := Eb2.size
      have nb1 : ∀ k, zz zn (Iv w4.heap.size w5.heap.size) k → k ≠ b2 := fun k hk => by have := (hMZ).lt hk; omega
      refine lx_set (want rfl) sz_24 rfl (t_agg rfl) rfl rfl rfl B2 (Nat.le_of_ble_eq_true rfl) ?_
      intro w7 Es1 Bs1
      have F7 := F6.set Es1 (by omega)
      have hzs1 := Es1.size
      refine lx_value (want rfl) (as_int rfl) ?_
      refine lx_nil ?_
      refine wk_seq ?_
      refine wk_seq ?_
      refine wk_region ?_
      refine lx_value (want rfl) (mv_int rfl) ?_
      refine lx_value (want rfl) (rn_neq rfl rfl) ?_
      refine lx_dec_f ((fun h => h rfl)) ?_
      refine lx_nil ?_
      refine wk_cond_f rfl ?_
      refine wk_skip ?_
      refine wk_seq ?_
      refine wk_mix 11 (fun kS => match kS with | 1 => .any (fun I v w => ∃ s c, v = .agg #[.slice s (memC p.2).length c] ∧ MemS (Iv I.1 I.2) w s (memC p.2)) | 4 => .any (fun I v w => ∃ s c, v = .slice s p.1.length c ∧ VlS (Iv I.1 I.2) w s p.1) | 5 => .any (fun I v w => w7.heap.size ≤ I.1 ∧ ∃ pv, v = .tuple #[pv, .int .i64 0] ∧ PicI I w pv p) | 9 => .any (fun I v w => v = .pointer (some ⟨I.1, 0, none⟩) ∧ w7.heap.size ≤ I.1 ∧ I.1 < I.2 ∧ Blk w I.1 [.slice none 0 0, .slice none 0 0] 45) | 10 => .sto 5 35 (fun J u w => J.1 < J.2 ∧ Blk w J.1 u.cells.toList 45) | _ => .none) (by kernel_rfl) (by kernel_rfl) (by intro kS G hk; (try dsimp only at hk); (split at hk) <;> first | (cases hk; done) | (injection hk with hk; subst hk; exact ⟨by intro j hkj I v w w' hR hG; first | exact hG | (obtain ⟨s, c, h1, h2⟩ := hG; exact ⟨s, c, h1, h2.fr (st_stab _) hR (fun _ _ h => h)⟩) | (obtain ⟨s, c, h1, h2⟩ := hG; exact ⟨s, c, h1, h2.fr (vl_stab _) hR (fun _ _ h => h)⟩) | (obtain ⟨h0, pv, h1, h2⟩ := hG; exact ⟨h0, pv, h1, h2.fr hR (fun _ _ h => h)⟩) | (obtain ⟨h1, h2, hI, h3⟩ := hG; exact ⟨h1, h2, hI, h3.ext hR⟩), fun _ I v w w' hR hG => by first | exact hG | (obtain ⟨s, c, h1, h2⟩ := hG; exact ⟨s, c, h1, h2.fr (st_stab _) hR (fun k hk h => h.2 hk)⟩) | (obtain ⟨s, c, h1, h2⟩ := hG; exact ⟨s, c, h1, h2.fr (vl_stab _) hR (fun k hk h => h.2 hk)⟩) | (obtain ⟨h0, pv, h1, h2⟩ := hG; exact ⟨h0, pv, h1, h2.fr hR (fun k hk h => h.2 hk)⟩) | (obtain ⟨h1, h2, hI, h3⟩ := hG; exact ⟨h1, h2, hI, h3.fr hR (fun h => h.2 ⟨Nat.le_refl _, hI⟩)⟩)⟩)) (by intro kS s y G hk; (try dsimp only at hk); (split at hk) <;> first | (cases hk; done) | (injection hk with hk1 hk2 hk3; subst hk1; subst hk2; subst hk3; exact ⟨by kernel_rfl, by intro j hkj I v w w' hR hG; exact ⟨hG.1, hG.2.ext hR⟩, fun I v w w' hR hG => ⟨hG.1, hG.2.fr hR (fun h => h.2 ⟨Nat.le_refl _, hG.1⟩)⟩⟩)) ?_
      simp only [List.take_succ_cons, List.take_zero, List.take_nil, List.drop_succ_cons, List.drop_zero, List.drop_nil]
      refine mx_calm rfl (want rfl) (fun u1 eu1 fu1 => rn_loadBlk ag_24 sz_24 rfl (Bs1.ext ((ext_drawn _).trans' eu1)) rfl rfl) ?_
      refine mx_any rfl rfl (want rfl) (fun u2 eu2 fu2 => do_call (ent_func cf_20 (argsC (t_agg rfl) args0)) (copy_ct (memC p.2) sM cM _ hBm u2 ((((hMZ.ext Eb2).fr Es1 (fun k hk h => nb1 k hk h)).ext ((ext_drawn _).trans' eu2))).1) (fun v w' E h => ⟨E, h.read⟩)) (fun I30 v30 => ?_)
      refine mx_calm rfl (want rfl) (fun u3 eu3 fu3 => rn_fieldAddr fa_45_0 rfl) ?_
      refine mx_calm rfl (want rfl) (fun u4 eu4 fu4 => rn_load1Blk ag_30 rfl (((((((B1.ext E1).ext E2).ext E3).ext E4).ext Eb2).ne Es1 (by omega)).ext ((ext_drawn _).trans' eu4)) rfl) ?_
      refine mx_any rfl rfl (want rfl) (fun u5 eu5 fu5 => do_call (ent_func cf_28 (argsC (t_slice rfl) args0)) (values_ct p.1 sv cv G u5 (hv.fr (vl_stab _) (F7.ext ((ext_drawn _).trans' eu5)) (fun _ _ h => h)) hB1) (fun v w' E h => ⟨E, (by obtain ⟨s, c, h1, h2, h3⟩ := h; exact ⟨s, c, h1, own_vl h2 h3⟩)⟩)) (fun I33 v33 => ?_)
      refine mx_any rfl rfl (want rfl) (fun u6 eu6 fu6 => by obtain ⟨s30, c30, rfl, hM30⟩ := fu6 30 _ rfl (show (30 : Nat) ∈ _ from by decide); obtain ⟨s33, c33, rfl, hV33⟩ := fu6 33 _ rfl (show (33 : Nat) ∈ _ from by decide); exact do_call (ent_func cf_30 (argsC (t_agg rfl) (argsC (t_slice rfl) args0))) (pDraw_ct (memC p.2) s30 c30 _ hBm p.1 s33 c33 _ hB1 u6 hM30 hV33) (fun v w' E h => ⟨E, ⟨((ext_drawn _).trans' eu6).size, (by rw [pic_draw hp] at h; exact h)⟩⟩)) (fun I34 v34 => ?_)
      refine mx_calm (v := .tuple #[.agg #[.slice (sad (aget (tget v34 0) 0)) (sln (aget (tget v34 0) 0)) (scp (aget (tget v34 0) 0)), .slice (sad (aget (tget v34 0) 1)) (sln (aget (tget v34 0) 1)) (scp (aget (tget v34 0) 1))], .int .i64 0]) rfl (want rfl) (fun u7 eu7 fu7 => by obtain ⟨_, pv, rfl, s1, c1, s2, c2, rfl, _, _⟩ := fu7 34 _ rfl (show (34 : Nat) ∈ _ from by decide); exact rn_move rfl) ?_
      refine mx_calm rfl (want rfl) (fun u8 eu8 fu8 => rn_extract rfl rfl) ?_
      refine mx_calm rfl (want rfl) (fun u9 eu9 fu9 => rn_extract rfl rfl) ?_
      refine mx_any rfl rfl (want rfl) (fun u10 eu10 fu10 => (do_new3 (rn_alloc ze_45) (show _ ≤ _ from (((ext_drawn _).trans' eu10)).size)).mono (fun v w' h => ⟨h.1, h.2⟩)) (fun I5 v5 => ?_)
      refine mx_sto rfl rfl rfl rfl (want rfl) (fun u11 eu11 fu11 _ => by obtain ⟨rfl, hl5, hi5, hB5⟩ := fu11 5 _ rfl (show (5 : Nat) ∈ _ from by decide); exact (do_sto sz_45 rfl rfl rfl rfl rfl hB5 rfl ⟨Nat.le_refl _, hi5⟩).mono (fun v w' h => ⟨h.1, h.2.1, hi5, h.2.2⟩)) ?_
      refine mx_nil (fun w8 E5' H1 HS => ?_)
      have E5 := (ext_drawn _).trans' E5'
      have F8 := F7.ext E5
      have hz5 := E5.size
      have hI5 := (HS.1 5 _ rfl).2
      have hI34 := (HS.1 34 _ rfl).2
      have hI33 := (HS.1 33 _ rfl).2
      have hI30 := (HS.1 30 _ rfl).2
      have hX5_34 := HS.2 5 _ 34 _ rfl rfl (show (5 : Nat) ≠ 34 from by decide)
      have hX5_33 := HS.2 5 _ 33 _ rfl rfl (show (5 : Nat) ≠ 33 from by decide)
      have hX5_30 := HS.2 5 _ 30 _ rfl rfl (show (5 : Nat) ≠ 30 from by decide)
      have hX34_33 := HS.2 34 _ 33 _ rfl rfl (show (34 : Nat) ≠ 33 from by decide)
      have hX34_30 := HS.2 34 _ 30 _ rfl rfl (show (34 : Nat) ≠ 30 from by decide)
      have hX33_30 := HS.2 33 _ 30 _ rfl rfl (show (33 : Nat) ≠ 30 from by decide)
      simp only at hI5
      simp only at hI34
      simp only at hI33
      simp only at hI30
      simp only at hX5_34
      simp only at hX5_33
      simp only at hX5_30
      simp only at hX34_33
      simp only at hX34_30
      simp only at hX33_30
      have g5 := H1 5 _ rfl
      obtain ⟨⟨_, hv5, hb5, _, _⟩, hi5, hB5⟩ := g5; subst hv5; have hlb5 := hB5.lt
      have g34 := H1 34 _ rfl
      obtain ⟨hI34a, pv, rfl, hPI⟩ := g34
      obtain ⟨s1, c1, s2, c2, rfl, hV1, hV2⟩ := hPI
      have hPZ : PZ (Iv I34.1 I34.2) w8 s1 s2 p := ⟨⟨hV1, hV2⟩, fun k hk => by have h9 := hk.2; omega⟩
      have hinc3 := fun (k : Nat) (hk : zz zn (Iv I34.1 I34.2) k) => (Or.inr (by have h9 : I34.1 ≤ k := hk.1; omega) : zz none (fun _ => False) k ∨ w7.heap.size ≤ k)
      have tg4 : ∀ k, zz zn (Iv I34.1 I34.2) k → w0.heap.size ≤ k := fun k hk => (hinc3 k hk).elim ((fun _ h => zz_nil h) k) (fun h => by omega)
      have tn4_1 : ∀ k, zz zn (Iv I34.1 I34.2) k → k ≠ b1 := fun k hk => (hinc3 k hk).elim ((fun _ h => zz_nil h) k) (fun h => by have h9 : I34.1 ≤ k ∧ k < I34.2 := hk; have := (B1).lt; omega)
      have tn4_2 : ∀ k, zz zn (Iv I34.1 I34.2) k → k ≠ b2 := fun k hk => (hinc3 k hk).elim ((fun _ h => zz_nil h) k) (fun h => by have h9 : I34.1 ≤ k ∧ k < I34.2 := hk; have := (Bs1).lt; omega)
      have tt4_2 : ∀ k, zz zn (Iv I34.1 I34.2) k → zz zn (Iv w4.heap.size w5.heap.size) k → False := fun k hk h2 => (hinc3 k hk).elim (fun h => (fun _ h _ => zz_nil h) k h h2) (fun h => by have := (hMZ).lt h2; omega)
      have g33 := H1 33 _ rfl
      have g30 := H1 30 _ rfl
      have nb2 : ∀ k, zz zn (Iv w4.heap.size w5.heap.size) k → k ≠ I5.1 := fun k hk => by have := (hMZ).lt hk; omega
      have nb3 : ∀ k, zz zn (Iv I34.1 I34.2) k → k ≠ I5.1 := fun k hk => by have h9 : I34.1 ≤ k ∧ k < I34.2 := hk; have := (hPZ).lt hk; omega
      refine lx_value (want rfl) (as_int rfl) ?_
      refine lx_nil ?_
      refine wk_seq ?_
      refine wk_region ?_
      refine lx_call (want rfl) (ent_func cf_41 (argsC (t_int rfl) args0)) (int_ct _ w8) ?_
      rintro _ w9 E6 rfl
      have F9 := F8.ext E6
      have hz6 := E6.size
      refine lx_newS (want rfl) (rn_bslice (xs := [.tmp 37]) Tryz.underlying30 sz_36 ze_36 rfl (argsC (t_agg rfl) args0) (CL.cons rfl rfl CL.nil) rfl (Nat.le_of_ble_eq_true rfl)) ?_
      intro b3 w10 hb3 Eb3 B3 hlb3
      have F10 := F9.ext Eb3
      have hzb3 := Eb3.size
      have nb4 : ∀ k, zz zn (Iv w4.heap.size w5.heap.size) k → k ≠ b3 := fun k hk => by have := (hMZ).lt hk; omega
      have nb5 : ∀ k, zz zn (Iv I34.1 I34.2) k → k ≠ b3 := fun k hk => by have := (hPZ).lt hk; omega
      refine lx_value (want rfl) (rn_build1 (t_slice rfl) (fun w => bd_65_0 _ _ _ w)) ?_
      refine lx_newS (want rfl) (rn_bslice (xs := [.tmp 39]) Tryz.underlying22 sz_65 ze_65 rfl (argsC (t_agg rfl) args0) (CL.cons rfl rfl CL.nil) rfl (Nat.le_of_ble_eq_true rfl)) ?_
      intro b4 w11 hb4 Eb4 B4 hlb4
      have F11 := F10.ext Eb4
      have hzb4 := Eb4.size
      have nb6 : ∀ k, zz zn (Iv w4.heap.size w5.heap.size) k → k ≠ b4 := fun k hk => by have := (hMZ).lt hk; omega
      have nb7 : ∀ k, zz zn (Iv I34.1 I34.2) k → k ≠ b4 := fun k hk => by have := (hPZ).lt hk; omega
      have hT0 := mtab_one (l := [(1, 1)]) (B3.ext Eb4) (by decide) B4 (by omega)
      have hI0 : ∀ k, mtb (some ⟨b4, 0, none⟩) ([((some ⟨b3, 0, none⟩, 1, [(1, 1)]), (none, 0, []))] : List (SE Vl Rd)) k → (mtb none ([] : List (SE Vl Rd)) k ∨ w9.heap.size ≤ k) := fun k hk => .inr (by have := mtb_one hk; omega)
      have tg6 : ∀ k, mtb (some (⟨b4, 0, none⟩ : Addr)) ([((some ⟨b3, 0, none⟩, 1, [(1, 1)]), (none, 0, []))] : List (SE Vl Rd)) k → w0.heap.size ≤ k := fun k hk => (hI0 k hk).elim ((fun _ h => mtb_nil h) k) (fun h => by omega)
      have tn6_1 : ∀ k, mtb (some (⟨b4, 0, none⟩ : Addr)) ([((some ⟨b3, 0, none⟩, 1, [(1, 1)]), (none, 0, []))] : List (SE Vl Rd)) k → k ≠ b1 := fun k hk => (hI0 k hk).elim ((fun _ h => mtb_nil h) k) (fun h => by have := (B1).lt; omega)
      have tn6_2 : ∀ k, mtb (some (⟨b4, 0, none⟩ : Addr)) ([((some ⟨b3, 0, none⟩, 1, [(1, 1)]), (none, 0, []))] : List (SE Vl Rd)) k → k ≠ b2 := fun k hk => (hI0 k hk).elim ((fun _ h => mtb_nil h) k) (fun h => by have := (Bs1).lt; omega)
      have tn6_1005 : ∀ k, mtb (some (⟨b4, 0, none⟩ : Addr)) ([((some ⟨b3, 0, none⟩, 1, [(1, 1)]), (none, 0, []))] : List (SE Vl Rd)) k → k ≠ I5.1 := fun k hk => (hI0 k hk).elim ((fun _ h => mtb_nil h) k) (fun h => by have := (hB5).lt; omega)
      have tt6_2 : ∀ k, mtb (some (⟨b4, 0, none⟩ : Addr)) ([((some ⟨b3, 0, none⟩, 1, [(1, 1)]), (none, 0, []))] : List (SE Vl Rd)) k → zz zn (Iv w4.heap.size w5.heap.size) k → False := fun k hk h2 => (hI0 k hk).elim (fun h => (fun _ h _ => mtb_nil h) k h h2) (fun h => by have := (hMZ).lt h2; omega)
      have tt6_3 : ∀ k, mtb (some (⟨b4, 0, none⟩ : Addr)) ([((some ⟨b3, 0, none⟩, 1, [(1, 1)]), (none, 0, []))] : List (SE Vl Rd)) k → zz zn (Iv I34.1 I34.2) k → False := fun k hk h2 => (hI0 k hk).elim (fun h => (fun _ h _ => mtb_nil h) k h h2) (fun h => by have := (hPZ).lt h2; omega)
      refine lx_value (want rfl) (rn_build1 (t_slice rfl) (fun w => bd_24_0 _ _ _ w)) ?_
      refine lx_new (want rfl) (rn_alloc ze_24) ?_
      intro b5 w12 hb5 Eb5 B5 hlb5
      have F12 := F11.ext Eb5
      have hzb5 := Eb5.size
      have nb8 : ∀ k, zz zn (Iv w4.heap.size w5.heap.size) k → k ≠ b5 := fun k hk => by have := (hMZ).lt hk; omega
      have nb9 : ∀ k, zz zn (Iv I34.1 I34.2) k → k ≠ b5 := fun k hk => by have := (hPZ).lt hk; omega
      have nb10 : ∀ k, mtb (some (⟨b4, 0, none⟩ : Addr)) ([((some ⟨b3, 0, none⟩, 1, [(1, 1)]), (none, 0, []))] : List (SE Vl Rd)) k → k ≠ b5 := fun k hk => by have := (hT0).lt hk; omega
      refine lx_set (want rfl) sz_24 rfl (t_agg rfl) rfl rfl rfl B5 (Nat.le_of_ble_eq_true rfl) ?_
      intro w13 Es2 Bs2
      have F13 := F12.set Es2 (by omega)
      have hzs2 := Es2.size
      refine lx_nil ?_
      refine wk_seq ?_
      refine wk_seq ?_
      refine wk_region ?_
      refine lx_value (want rfl) (as_int rfl) ?_
      refine lx_nil ?_
      refine wk_block ?_
      refine wk_loopA [8, 42, 43, 44, 45, 46, 47, 48, 49, 50, 51, 52, 53, 54, 55, 56, 57, 58, 59, 60, 61] (fun j => no j ∨ w0.heap.size ≤ j) (fun nM ρ w => ∃ (i : Nat) (st1_1 : Option Addr) (ct1_1 : Nat) (TT1_1 : List (SE Vl Rd)) (TT1_2 : Nat → Prop) (TT1_3 : Nat → Prop), nM = p.2.length - i ∧ ρ 8 = .int .i64 i ∧ Blk w b1 (cellsOf B1) 45 ∧ Blk w b2 (cellsOf Bs1) 24 ∧ Blk w I5.1 (cellsOf hB5) 45 ∧ Blk w b5 [.slice st1_1 TT1_1.length ct1_1] 24 ∧ MTab w 65 36 2 vlC 115 2 rdC st1_1 ct1_1 TT1_1 ∧ (∀ k, mtb st1_1 TT1_1 k → w0.heap.size ≤ k) ∧ (∀ k, mtb st1_1 TT1_1 k → k ≠ b1) ∧ (∀ k, mtb st1_1 TT1_1 k → k ≠ b2) ∧ (∀ k, mtb st1_1 TT1_1 k → k ≠ I5.1) ∧ (∀ k, mtb st1_1 TT1_1 k → k ≠ b5) ∧ MZ TT1_2 w sM (memC p.2) ∧ (∀ k, zz zn TT1_2 k → w0.heap.size ≤ k) ∧ (∀ k, zz zn TT1_2 k → k ≠ b1) ∧ (∀ k, zz zn TT1_2 k → k ≠ b2) ∧ (∀ k, zz zn TT1_2 k → k ≠ I5.1) ∧ (∀ k, zz zn TT1_2 k → k ≠ b5) ∧ PZ TT1_3 w s1 s2 p ∧ (∀ k, zz zn TT1_3 k → w0.heap.size ≤ k) ∧ (∀ k, zz zn TT1_3 k → k ≠ b1) ∧ (∀ k, zz zn TT1_3 k → k ≠ b2) ∧ (∀ k, zz zn TT1_3 k → k ≠ I5.1) ∧ (∀ k, zz zn TT1_3 k → k ≠ b5) ∧ (∀ k, mtb st1_1 TT1_1 k → zz zn TT1_2 k → False) ∧ (∀ k, mtb st1_1 TT1_1 k → zz zn TT1_3 k → False) ∧ (∀ k, zz zn TT1_2 k → zz zn TT1_3 k → False) ∧ (i ≤ p.2.length) ∧ (TT1_1.map SE.abs = memC (upM (p.2.take i)))) _ ⟨0, (some (⟨b4, 0, none⟩ : Addr)), 1, ([((some ⟨b3, 0, none⟩, 1, [(1, 1)]), (none, 0, []))] : List (SE Vl Rd)), (Iv w4.heap.size w5.heap.size), (Iv I34.1 I34.2), rfl, rfl, ((((((((((((B1.ext E1).ext E2).ext E3).ext E4).ext Eb2).ne Es1 (by omega)).ext E5).ext E6).ext Eb3).ext Eb4).ext Eb5).ne Es2 (by omega)), ((((((Bs1.ext E5).ext E6).ext Eb3).ext Eb4).ext Eb5).ne Es2 (by omega)), (((((hB5.ext E6).ext Eb3).ext Eb4).ext Eb5).ne Es2 (by omega)), Bs2, ((hT0.ext Eb5).fr Es2 (fun k hk h => nb10 k hk h)), tg6, tn6_1, tn6_2, tn6_1005, nb10, ((((((((hMZ.ext Eb2).fr Es1 (fun k hk h => nb1 k hk h)).ext E5).ext E6).ext Eb3).ext Eb4).ext Eb5).fr Es2 (fun k hk h => nb8 k hk h)), tg2, tn2_1, nb1, nb2, nb8, (((((hPZ.ext E6).ext Eb3).ext Eb4).ext Eb5).fr Es2 (fun k hk h => nb9 k hk h)), tg4, tn4_1, tn4_2, nb3, nb9, tt6_2, tt6_3, (fun k h1 h2 => tt4_2 k h2 h1), Nat.zero_le _, rfl⟩ ?_
      rintro n1 ρ1 w14 A1 EL1 ⟨i, st1_1, ct1_1, TT1_1, TT1_2, TT1_3, rfl, hs1_8, BL1_1, BL1_2, BL1_1005, BL1_5, tw1L_1, tg1L_1, tn1L_1_1, tn1L_1_2, tn1L_1_1005, tn1L_1_5, tw1L_2, tg1L_2, tn1L_2_1, tn1L_2_2, tn1L_2_1005, tn1L_2_5, tw1L_3, tg1L_3, tn1L_3_1, tn1L_3_2, tn1L_3_1005, tn1L_3_5, tt1L_1_2, tt1L_1_3, tt1L_2_3, hi, hT⟩
      have F14 := F13.wide EL1
      have hzL1 := EL1.size
      refine wk_seq ?_
      refine wk_seq ?_
      refine wk_region ?_
      refine lx_value (want rfl) (mv_int hs1_8) ?_
      refine lx_value (want rfl) (rn_fieldAddr fa_24_0 (A1.at 3 rfl rfl)) ?_
      refine lx_value (want rfl) (rn_load1Blk ag_22 rfl BL1_2 rfl) ?_
      refine lx_value (want rfl) (rn_len Tryz.underlying22 rfl) ?_
      refine lx_value (want rfl) (rn_lss rfl rfl) ?_
      refine lx_dec (fun hlt => ?_) (fun hlt => ?_)
      ·
        rw [memC_len] at hlt
        obtain ⟨l, hl⟩ := getx hlt
        have hTl := up_len hT hi
        obtain ⟨bx, ox, hsx, hZx, sc, cc, sw, cw, hcx, hcy, hcv, hcr⟩ := (tw1L_2).1 i (l, []) (memC_get hl)
        subst hsx
        have hlB := hBp.2.2 l (List.mem_of_getElem? hl)
        have hlV := up_bd h14 (hpv.2 l (List.mem_of_getElem? hl))
        refine lx_nil ?_
        refine wk_cond_t rfl ?_
        refine wk_skip ?_
        refine wk_seq ?_
        refine wk_block ?_
        have hTo := tw1L_1
        have hcx9 : ∀ (u : World), Fr (ob st1_1) w14 u → u.cell? ⟨bx, ox + i * 2, none⟩ = some (.slice sc l.length cc) := fun u e => e.cell (p := ⟨bx, _, none⟩) (fun h => tt1L_1_2 bx (.inl h) hZx) hcx
        have hSl : ∀ k, (ob st1_1) k → k < w14.heap.size := fun k h => (tw1L_1).lt (.inl h)
        refine wk_mixA 12 11 (ob st1_1) (fun kS => match kS with | 8 => .any (fun I v w => ∃ s c, v = .slice s (upL l).length c ∧ OwnS w 36 2 s (upL l).length c ((upL l).flatMap vlC) ∧ ∀ k, ob s k → w14.heap.size ≤ k) | 9 => .any (fun I v w => ∃ s c, v = .agg #[.slice s (upL l).length c, .slice none 0 0] ∧ OwnS w 36 2 s (upL l).length c ((upL l).flatMap vlC) ∧ ∀ k, ob s k → w14.heap.size ≤ k) | 10 => .any (fun I v w => ∃ b s c, v = .slice (some ⟨b, 0, none⟩) 1 1 ∧ w14.heap.size ≤ b ∧ Blk w b [.slice s (upL l).length c, .slice none 0 0] 65 ∧ OwnS w 36 2 s (upL l).length c ((upL l).flatMap vlC) ∧ ∀ k, ob s k → w14.heap.size ≤ k) | 11 => .any (fun I v w => ∃ (e : SE Vl Rd) (s : Option Addr) (c : Nat), v = .slice s (TT1_1 ++ [e]).length c ∧ e.abs = (upL l, []) ∧ MTab w 65 36 2 vlC 115 2 rdC s c (TT1_1 ++ [e]) ∧ ∀ k, mtb s (TT1_1 ++ [e]) k → (mtb st1_1 TT1_1 k ∨ w14.heap.size ≤ k)) | _ => .none) (by kernel_rfl) (by kernel_rfl) (by intro kS G hk; (try dsimp only at hk); (split at hk) <;> first | (cases hk; done) | (injection hk with hk; subst hk; exact ⟨by intro j hkj I v w w' hR hG; first | exact hG | (obtain ⟨s, c, h1, h2, h3⟩ := hG; exact ⟨s, c, h1, h2.fr (mS hR) (fun k hk hs => by have := h3 k hk; have := hTo.out.lt hs; omega), h3⟩) | (obtain ⟨s, c, h1, h4, h5⟩ := hG; exact ⟨s, c, h1, h4.fr (mS hR) (fun k hk hs => by have := h5 k hk; have := hTo.out.lt hs; omega), h5⟩) | (obtain ⟨b, s, c, h1, h2, h3, h4, h5⟩ := hG; exact ⟨b, s, c, h1, h2, h3.fr (mS hR) (fun hs => by have := hTo.out.lt hs; omega), h4.fr (mS hR) (fun k hk hs => by have := h5 k hk; have := hTo.out.lt hs; omega), h5⟩) | (obtain ⟨e, s, c, h1, h2, h3, h4⟩ := hG; exact ⟨e, s, c, h1, h2, h3.ext (mT hkj hR), h4⟩), fun ⟨_, _, _, _, hs⟩ => by (try dsimp only at hs); split at hs <;> cases hs⟩)) (by intro kS s y G hk; (try dsimp only at hk); split at hk <;> cases hk) ?_
        simp only [List.take_succ_cons, List.take_zero, List.take_nil, List.drop_succ_cons, List.drop_zero, List.drop_nil]
        refine mx_calm rfl (want rfl) (fun u12 eu12 fu12 => rn_fieldAddr fa_24_0 (A1.at 7 rfl rfl)) ?_
        refine mx_calm rfl (want rfl) (fun u13 eu13 fu13 => rn_load1Blk ag_22 rfl (BL1_5.fr (mD (by decide) eu13) (fun h => tn1L_1_5 _ (.inl h) rfl)) rfl) ?_
        refine mx_calm rfl (want rfl) (fun u14 eu14 fu14 => rn_fieldAddr fa_24_0 (A1.at 3 rfl rfl)) ?_
        refine mx_calm rfl (want rfl) (fun u15 eu15 fu15 => rn_load1Blk ag_22 rfl (BL1_2.fr (mD (by decide) eu15) (fun h => tn1L_1_2 _ (.inl h) rfl)) rfl) ?_
        refine mx_calm rfl (want rfl) (fun u16 eu16 fu16 => mv_int hs1_8) ?_
        refine mx_calm rfl (want rfl) (fun u17 eu17 fu17 => rn_index i Tryz.underlying22 sz_65 rfl rfl rfl (by rw [memC_len]; omega)) ?_
        refine mx_calm rfl (want rfl) (fun u18 eu18 fu18 => rn_fieldAddr fa_65_0 rfl) ?_
        refine mx_calm rfl (want rfl) (fun u19 eu19 fu19 => rn_load1 ag_30 rfl (hcx9 _ (mD (by decide) eu19))) ?_
        refine mx_any rfl rfl (want rfl) (fun u20 eu20 fu20 => do_call (ent_func cf_42 (argsC (t_slice rfl) args0)) (higher_ct l sc cc _ hlB hlV u20 (hcv.fr (vl_stab _) (mD (by decide) eu20) (fun k hk h => tt1L_1_2 k (.inl h) hk))) (fun v w' E h => ⟨(mE (by decide) E), by obtain ⟨s, c, h1, h2, h3⟩ := h; exact ⟨s, c, h1, h2, fun k hk => Nat.le_trans (mD (by decide) eu20).size (h3 k hk)⟩⟩)) (fun I57 v57 => ?_)
        refine mx_any rfl rfl (want rfl) (fun u21 eu21 fu21 => by obtain ⟨s, c, rfl, h23, hg23⟩ := fu21 57 _ rfl (show (57 : Nat) ∈ _ from by decide); exact do_value (rn_build1 (t_slice rfl) (fun w => bd_65_0 _ _ _ w)) ⟨(mE (by decide) (Fr.refl no _)), ⟨s, c, rfl, h23, hg23⟩⟩) (fun I58 v58 => ?_)
        refine mx_any rfl rfl (want rfl) (fun u22 eu22 fu22 => by obtain ⟨s, c, rfl, h23, hg23⟩ := fu22 58 _ rfl (show (58 : Nat) ∈ _ from by decide); exact (do_newS2 (rn_bslice (xs := [.tmp 58]) Tryz.underlying22 sz_65 ze_65 rfl (argsC (t_agg rfl) args0) (CL.cons rfl rfl CL.nil) rfl (Nat.le_of_ble_eq_true rfl)) (show _ ≤ _ from ((mD (by decide) eu22)).size)).mono (fun v w' h => ⟨(mE (by decide) h.1), by obtain ⟨h1, b, h2, h3, _, h4⟩ := h; exact ⟨b, s, c, h2, h3, h4, h23.ext h1, hg23⟩⟩)) (fun I59 v59 => ?_)
        refine mx_any rfl rfl (want rfl) (fun u23 eu23 fu23 => by obtain ⟨b29, s1, c1, rfl, hb29, hB29, h1, hg1⟩ := fu23 59 _ rfl (show (59 : Nat) ∈ _ from by decide); exact do_append 48 Tryz.underlying22 ti_65 (by decide) rfl (by decide) rfl rfl (tw1L_1.ext (mC eu23)).out (Src.blk hB29 rfl rfl) (by rw [hTl]; omega) (fun sA cA wA AP => ⟨(mF AP.fr), by obtain ⟨g1, g2⟩ := MTab.snoc (e := ((s1, c1, upL l), (none, 0, []))) (tw1L_1.ext (mC eu23)) h1 (OwnS.nil _ _ _) (fun k _ h => ob_none h) (fun k hk hb => by have := hTo.lt hb; rcases hk with hk | hk; have := hg1 k hk; omega; exact ob_none hk) AP; exact ⟨_, sA, cA, by simp, rfl, g1, fun k hk => (g2 k hk).elim .inl (fun h => .inr (h.elim (fun h => h.elim (hg1 k) (fun h => ob_none h)) (fun h => Nat.le_trans (mC eu23).size h)))⟩⟩)) (fun I60 v60 => ?_)
        refine mx_nil (fun w15 E7' H2 HS => ?_)
        have E7 := mG E7'
        have F15 := F14.new E7 (fun k h => tg1L_1 k (.inl h))
        have hz7 := E7.size
        have hI60 := (HS.1 60 _ rfl).2
        have hI59 := (HS.1 59 _ rfl).2
        have hI58 := (HS.1 58 _ rfl).2
        have hI57 := (HS.1 57 _ rfl).2
        have hX60_59 := HS.2 60 _ 59 _ rfl rfl (show (60 : Nat) ≠ 59 from by decide)
        have hX60_58 := HS.2 60 _ 58 _ rfl rfl (show (60 : Nat) ≠ 58 from by decide)
        have hX60_57 := HS.2 60 _ 57 _ rfl rfl (show (60 : Nat) ≠ 57 from by decide)
        have hX59_58 := HS.2 59 _ 58 _ rfl rfl (show (59 : Nat) ≠ 58 from by decide)
        have hX59_57 := HS.2 59 _ 57 _ rfl rfl (show (59 : Nat) ≠ 57 from by decide)
        have hX58_57 := HS.2 58 _ 57 _ rfl rfl (show (58 : Nat) ≠ 57 from by decide)
        simp only at hI60
        simp only at hI59
        simp only at hI58
        simp only at hI57
        simp only at hX60_59
        simp only at hX60_58
        simp only at hX60_57
        simp only at hX59_58
        simp only at hX59_57
        simp only at hX58_57
        have g60 := H2 60 _ rfl
        obtain ⟨e, sN, cN, rfl, he, hTN, hIN⟩ := g60
        have tg7 : ∀ k, mtb sN (TT1_1 ++ [e]) k → w0.heap.size ≤ k := fun k hk => (hIN k hk).elim (tg1L_1 k) (fun h => by omega)
        have tn7_1 : ∀ k, mtb sN (TT1_1 ++ [e]) k → k ≠ b1 := fun k hk => (hIN k hk).elim (tn1L_1_1 k) (fun h => by have := (BL1_1).lt; omega)
        have tn7_2 : ∀ k, mtb sN (TT1_1 ++ [e]) k → k ≠ b2 := fun k hk => (hIN k hk).elim (tn1L_1_2 k) (fun h => by have := (BL1_2).lt; omega)
        have tn7_1005 : ∀ k, mtb sN (TT1_1 ++ [e]) k → k ≠ I5.1 := fun k hk => (hIN k hk).elim (tn1L_1_1005 k) (fun h => by have := (BL1_1005).lt; omega)
        have tn7_5 : ∀ k, mtb sN (TT1_1 ++ [e]) k → k ≠ b5 := fun k hk => (hIN k hk).elim (tn1L_1_5 k) (fun h => by have := (BL1_5).lt; omega)
        have tt7_2 : ∀ k, mtb sN (TT1_1 ++ [e]) k → zz zn TT1_2 k → False := fun k hk h2 => (hIN k hk).elim (fun h => tt1L_1_2 k h h2) (fun h => by have := (tw1L_2).lt h2; omega)
        have tt7_3 : ∀ k, mtb sN (TT1_1 ++ [e]) k → zz zn TT1_3 k → False := fun k hk h2 => (hIN k hk).elim (fun h => tt1L_1_3 k h h2) (fun h => by have := (tw1L_3).lt h2; omega)
        have g59 := H2 59 _ rfl
        have g58 := H2 58 _ rfl
        have g57 := H2 57 _ rfl
        refine lx_value (want rfl) (rn_fieldAddr fa_24_0 (A1.at 7 rfl rfl)) ?_
        refine lx_set (want rfl) sz_22 rfl (t_slice rfl) rfl rfl rfl (BL1_5.fr E7 (fun h => tn1L_1_5 _ (.inl h) rfl)) (Nat.le_of_ble_eq_true rfl) ?_
        intro w16 Es3 Bs3
        have F16 := F15.set Es3 (by omega)
        have hzs3 := Es3.size
        refine lx_nil ?_
        refine wk_region ?_
        refine lx_value (want rfl) (mv_int hs1_8) ?_
        refine lx_value (want rfl) (rn_add rfl rfl (by omega)) ?_
        refine lx_value (want rfl) (as_int rfl) ?_
        refine lx_nil ?_
        exact ⟨rfl, ((((((((((((((((((((((A1.up rfl _).up rfl _).up rfl _).up rfl _).up rfl _).up rfl _).up rfl _).up rfl _).up rfl _).up rfl _).up rfl _).up rfl _).up rfl _).up rfl _).up rfl _).up rfl _).up rfl _).up rfl _).none _).up rfl _).up rfl _).up rfl _), Fr.between F13 F16 (by omega), _, (by omega), i + 1, sN, cN, (TT1_1 ++ [e]), TT1_2, TT1_3, rfl, rfl, ((BL1_1.fr E7 (fun h => tn1L_1_1 _ (.inl h) rfl)).ne Es3 (by omega)), ((BL1_2.fr E7 (fun h => tn1L_1_2 _ (.inl h) rfl)).ne Es3 (by omega)), ((BL1_1005.fr E7 (fun h => tn1L_1_1005 _ (.inl h) rfl)).ne Es3 (by omega)), Bs3, (hTN.fr Es3 (fun k hk h => tn7_5 k hk h)), tg7, tn7_1, tn7_2, tn7_1005, tn7_5, ((tw1L_2.fr E7 (fun k h1 h => tt1L_1_2 k (.inl h) h1)).fr Es3 (fun k hk h => tn1L_2_5 k hk h)), tg1L_2, tn1L_2_1, tn1L_2_2, tn1L_2_1005, tn1L_2_5, ((tw1L_3.fr E7 (fun k h1 h => tt1L_1_3 k (.inl h) h1)).fr Es3 (fun k hk h => tn1L_3_5 k hk h)), tg1L_3, tn1L_3_1, tn1L_3_2, tn1L_3_1005, tn1L_3_5, tt7_2, tt7_3, tt1L_2_3, by have := (List.getElem?_eq_some_iff.1 hl).1; omega, (up_step hT hl he)⟩
      ·
        rw [memC_len] at hlt
        have hend := hlt
        refine lx_nil ?_
        refine wk_cond_f rfl ?_
        refine wk_exit ?_
        refine wk_seq ?_
        have hNT := up_end hT hend
        have hNl : TT1_1.length = (memC (upM p.2)).length := by have := congrArg List.length hNT; rwa [List.length_map] at this
        have hN5 := BL1_5; rw [hNl] at hN5
        have hNm := hNT ▸ MTab.readM tw1L_1 (F := fun _ => True) (fun _ _ => trivial)
        refine wk_mix 10 (fun kS => match kS with | 3 => .any (fun I v w => ∃ s c, v = .slice s (upL p.1).length c ∧ VlS (Iv I.1 I.2) w s (upL p.1)) | 4 => .any (fun I v w => w14.heap.size ≤ I.1 ∧ ∃ pv, v = .tuple #[pv, .int .i64 0] ∧ PicI I w pv p) | 8 => .any (fun I v w => v = .pointer (some ⟨I.1, 0, none⟩) ∧ w14.heap.size ≤ I.1 ∧ I.1 < I.2 ∧ Blk w I.1 [.slice none 0 0, .slice none 0 0] 45) | 9 => .sto 9 68 (fun J u w => J.1 < J.2 ∧ Blk w J.1 u.cells.toList 45) | _ => .none) (by kernel_rfl) (by kernel_rfl) (by intro kS G hk; (try dsimp only at hk); (split at hk) <;> first | (cases hk; done) | (injection hk with hk; subst hk; exact ⟨by intro j hkj I v w w' hR hG; first | exact hG | (obtain ⟨s, c, h1, h2⟩ := hG; exact ⟨s, c, h1, h2.fr (vl_stab _) hR (fun _ _ h => h)⟩) | (obtain ⟨h0, pv, h1, h2⟩ := hG; exact ⟨h0, pv, h1, h2.fr hR (fun _ _ h => h)⟩) | (obtain ⟨h1, h2, hI, h3⟩ := hG; exact ⟨h1, h2, hI, h3.ext hR⟩), fun _ I v w w' hR hG => by first | exact hG | (obtain ⟨s, c, h1, h2⟩ := hG; exact ⟨s, c, h1, h2.fr (vl_stab _) hR (fun k hk h => h.2 hk)⟩) | (obtain ⟨h0, pv, h1, h2⟩ := hG; exact ⟨h0, pv, h1, h2.fr hR (fun k hk h => h.2 hk)⟩) | (obtain ⟨h1, h2, hI, h3⟩ := hG; exact ⟨h1, h2, hI, h3.fr hR (fun h => h.2 ⟨Nat.le_refl _, hI⟩)⟩)⟩)) (by intro kS s y G hk; (try dsimp only at hk); (split at hk) <;> first | (cases hk; done) | (injection hk with hk1 hk2 hk3; subst hk1; subst hk2; subst hk3; exact ⟨by kernel_rfl, by intro j hkj I v w w' hR hG; exact ⟨hG.1, hG.2.ext hR⟩, fun I v w w' hR hG => ⟨hG.1, hG.2.fr hR (fun h => h.2 ⟨Nat.le_refl _, hG.1⟩)⟩⟩)) ?_
        simp only [List.take_succ_cons, List.take_zero, List.take_nil, List.drop_succ_cons, List.drop_zero, List.drop_nil]
        refine mx_calm rfl (want rfl) (fun u24 eu24 fu24 => rn_loadBlk ag_24 sz_24 (A1.at 7 rfl rfl) (hN5.ext ((ext_drawn _).trans' eu24)) rfl rfl) ?_
        refine mx_calm rfl (want rfl) (fun u25 eu25 fu25 => rn_fieldAddr fa_45_0 (A1.at 1 rfl rfl)) ?_
        refine mx_calm rfl (want rfl) (fun u26 eu26 fu26 => rn_load1Blk ag_30 rfl (BL1_1.ext ((ext_drawn _).trans' eu26)) rfl) ?_
        refine mx_any rfl rfl (want rfl) (fun u27 eu27 fu27 => do_call (ent_func cf_42 (argsC (t_slice rfl) args0)) (higher_ct p.1 sv cv G hB1 (up_bd h14 hpv.1) u27 (hv.fr (vl_stab _) (F14.ext ((ext_drawn _).trans' eu27)) (fun _ _ h => h))) (fun v w' E h => ⟨E, (by obtain ⟨s, c, h1, h2, h3⟩ := h; exact ⟨s, c, h1, own_vl h2 h3⟩)⟩)) (fun I66 v66 => ?_)
        refine mx_any rfl rfl (want rfl) (fun u28 eu28 fu28 => by obtain ⟨s66, c66, rfl, hV66⟩ := fu28 66 _ rfl (show (66 : Nat) ∈ _ from by decide); exact do_call (ent_func cf_30 (argsC (t_agg rfl) (argsC (t_slice rfl) args0))) (pDraw_ct (memC (upM p.2)) _ _ _ hBu (upL p.1) s66 c66 _ (by rw [upL_len]; exact hB1) u28 (hNm.fr (st_stab _) ((ext_drawn _).trans' eu28) (fun _ _ h => h)) hV66) (fun v w' E h => ⟨E, ⟨((ext_drawn _).trans' eu28).size, (by rw [up_draw hp (by omega)] at h; exact h)⟩⟩)) (fun I67 v67 => ?_)
        refine mx_calm (v := .tuple #[.agg #[.slice (sad (aget (tget v67 0) 0)) (sln (aget (tget v67 0) 0)) (scp (aget (tget v67 0) 0)), .slice (sad (aget (tget v67 0) 1)) (sln (aget (tget v67 0) 1)) (scp (aget (tget v67 0) 1))], .int .i64 0]) rfl (want rfl) (fun u29 eu29 fu29 => by obtain ⟨_, pv, rfl, s1, c1, s2, c2, rfl, _, _⟩ := fu29 67 _ rfl (show (67 : Nat) ∈ _ from by decide); exact rn_move rfl) ?_
        refine mx_calm rfl (want rfl) (fun u30 eu30 fu30 => rn_extract rfl rfl) ?_
        refine mx_calm rfl (want rfl) (fun u31 eu31 fu31 => rn_extract rfl rfl) ?_
        refine mx_any rfl rfl (want rfl) (fun u32 eu32 fu32 => (do_new3 (rn_alloc ze_45) (show _ ≤ _ from (((ext_drawn _).trans' eu32)).size)).mono (fun v w' h => ⟨h.1, h.2⟩)) (fun I9 v9 => ?_)
        refine mx_sto rfl rfl rfl rfl (want rfl) (fun u33 eu33 fu33 _ => by obtain ⟨rfl, hl9, hi9, hB9⟩ := fu33 9 _ rfl (show (9 : Nat) ∈ _ from by decide); exact (do_sto sz_45 rfl rfl rfl rfl rfl hB9 rfl ⟨Nat.le_refl _, hi9⟩).mono (fun v w' h => ⟨h.1, h.2.1, hi9, h.2.2⟩)) ?_
        refine mx_nil (fun w15 E8' H3 HS => ?_)
        have E8 := (ext_drawn _).trans' E8'
        have F17 := F14.ext E8
        have hz8 := E8.size
        have hI9 := (HS.1 9 _ rfl).2
        have hI67 := (HS.1 67 _ rfl).2
        have hI66 := (HS.1 66 _ rfl).2
        have hX9_67 := HS.2 9 _ 67 _ rfl rfl (show (9 : Nat) ≠ 67 from by decide)
        have hX9_66 := HS.2 9 _ 66 _ rfl rfl (show (9 : Nat) ≠ 66 from by decide)
        have hX67_66 := HS.2 67 _ 66 _ rfl rfl (show (67 : Nat) ≠ 66 from by decide)
        simp only at hI9
        simp only at hI67
        simp only at hI66
        simp only at hX9_67
        simp only at hX9_66
        simp only at hX67_66
        have g9 := H3 9 _ rfl
        obtain ⟨⟨_, hv9, hb9, _, _⟩, hi9, hB9⟩ := g9; subst hv9; have hlb9 := hB9.lt
        have g67 := H3 67 _ rfl
        obtain ⟨hI67a, pv, rfl, hPI⟩ := g67
        obtain ⟨s3, c3, s4, c4, rfl, hV3, hV4⟩ := hPI
        have g66 := H3 66 _ rfl
        have nb11 : ∀ k, mtb st1_1 TT1_1 k → k ≠ I9.1 := fun k hk => by have := (tw1L_1).lt hk; omega
        have nb12 : ∀ k, zz zn TT1_2 k → k ≠ I9.1 := fun k hk => by have := (tw1L_2).lt hk; omega
        have nb13 : ∀ k, zz zn TT1_3 k → k ≠ I9.1 := fun k hk => by have := (tw1L_3).lt hk; omega
        refine lx_value (want rfl) (as_int rfl) ?_
        refine lx_nil ?_
        refine wk_seq ?_
        refine wk_region ?_
        refine lx_value (want rfl) (mv_int (A1.at 6 rfl rfl)) ?_
        refine lx_value (want rfl) (rn_eql rfl rfl) ?_
        refine lx_dec_t (rfl) ?_
        refine lx_value (want rfl) (mv_bool rfl) ?_
        refine lx_value (want_if (j := 2) (d := 72) (x := true) (y := true) rfl rfl (by decide) rfl) (rn_loadBlk ag_45 sz_45 (A1.at 5 rfl rfl) (BL1_1005.ext E8) rfl rfl) ?_
        refine lx_value (want_if (j := 2) (d := 72) (x := true) (y := true) rfl rfl (by decide) rfl) (rn_loadBlk ag_45 sz_45 (A1.at 1 rfl rfl) (BL1_1.ext E8) rfl rfl) ?_
        refine lx_call (want_if (j := 2) (d := 72) (x := true) (y := true) rfl rfl (by decide) rfl) (ent_func cf_32 (argsC (t_agg rfl) (argsC (t_agg rfl) args0))) (samepic_ct p _ _ _ _ _ p sv cv sk ck G hBp w15 ((tw1L_3.ext E8)).1.1 ((tw1L_3.ext E8)).1.2 (hv.fr (vl_stab _) F17 (fun _ _ h => h)) (hk.fr (vv_stab _) F17 (fun _ _ h => h))) ?_
        rintro _ w16 E9 rfl
        have F18 := F17.ext E9
        have hz9 := E9.size
        refine lx_b_t (decide_eq_true rfl) ?_
        refine lx_value (want rfl) (pick_t rfl rfl) ?_
        refine lx_value (want rfl) (mv_bool rfl) ?_
        refine lx_value (want_if (j := 7) (d := 77) (x := true) (y := true) rfl rfl (by decide) rfl) (mv_int rfl) ?_
        refine lx_value (want_if (j := 7) (d := 77) (x := true) (y := true) rfl rfl (by decide) rfl) (rn_eql rfl rfl) ?_
        refine lx_dec_t (rfl) ?_
        refine lx_value (want rfl) (pick_t rfl rfl) ?_
        refine lx_value (want rfl) (mv_bool rfl) ?_
        refine lx_value (want_if (j := 11) (d := 81) (x := true) (y := true) rfl rfl (by decide) rfl) (rn_loadBlk ag_45 sz_45 rfl (hB9.ext E9) rfl rfl) ?_
        refine lx_value (want_if (j := 11) (d := 81) (x := true) (y := true) rfl rfl (by decide) rfl) (rn_loadBlk ag_45 sz_45 (A1.at 1 rfl rfl) ((BL1_1.ext E8).ext E9) rfl rfl) ?_
        refine lx_call (want_if (j := 11) (d := 81) (x := true) (y := true) rfl rfl (by decide) rfl) (ent_func cf_32 (argsC (t_agg rfl) (argsC (t_agg rfl) args0))) (samepic_ct p _ _ _ _ _ p sv cv sk ck G hBp w16 (hV3.fr (vl_stab _) (Fr.ext (Fr.refl no w15) E9) (fun k hk h => by have hk1 := hk.1; have hk2 := hk.2; (try dsimp only at h hk1 hk2); first | exact h.elim | omega | (rcases (show _ ∨ _ from h) with h | h <;> omega))) (hV4.fr (vv_stab _) (Fr.ext (Fr.refl no w15) E9) (fun k hk h => by have hk1 := hk.1; have hk2 := hk.2; (try dsimp only at h hk1 hk2); first | exact h.elim | omega | (rcases (show _ ∨ _ from h) with h | h <;> omega))) (hv.fr (vl_stab _) F18 (fun _ _ h => h)) (hk.fr (vv_stab _) F18 (fun _ _ h => h))) ?_
        rintro _ w17 E10 rfl
        have F19 := F18.ext E10
        have hz10 := E10.size
        refine lx_b_t (decide_eq_true rfl) ?_
        refine lx_value (want rfl) (pick_t rfl rfl) ?_
        refine lx_value (want rfl) (mv_bool rfl) ?_
        refine lx_call (want_if (j := 16) (d := 86) (x := true) (y := true) rfl rfl (by decide) rfl) (ent_func cf_19 args0) (awake_ct w17) ?_
        rintro _ w18 E11 rfl
        have F20 := F19.ext E11
        have hz11 := E11.size
        refine lx_value (want rfl) (pick_t rfl rfl) ?_
        refine lx_value (want rfl) (as_bool rfl) ?_
        refine lx_nil ?_
        refine wk_ret ?_
        refine retR1 Tryz.results7 (.tmp (t_bool rfl)) F20 ?_
        exact rfl
    ·
      refine lx_value (want_if (j := 3) (d := 14) (x := false) (y := false) rfl rfl (by decide) rfl) (rn_not rfl) ?_
      refine lx_value (want rfl) (pick_f rfl rfl) ?_
      refine lx_nil ?_
      refine wk_cond_t rfl ?_
      refine wk_seq ?_
      refine wk_region ?_
      refine lx_call (want rfl) (ent_func cf_19 args0) (awake_ct w3) ?_
      rintro _ w4 E12 rfl
      have F21 := F3.ext E12
      have hz12 := E12.size
      refine lx_value (want rfl) (as_bool rfl) ?_
      refine lx_nil ?_
      refine wk_ret ?_
      refine retR1 Tryz.results7 (.tmp (t_bool rfl)) F21 ?_
      exact rfl
  ·
    refine lx_value (want rfl) (rn_not rfl) ?_
    refine lx_value (want rfl) (mv_bool rfl) ?_
    refine lx_skip (want_if (j := 3) (d := 14) (x := false) (y := true) rfl rfl (by decide) rfl) ?_
    refine lx_skip (want_if (j := 3) (d := 14) (x := false) (y := true) rfl rfl (by decide) rfl) ?_
    refine lx_skip (want_if (j := 3) (d := 14) (x := false) (y := true) rfl rfl (by decide) rfl) ?_
    refine lx_value (want rfl) (pick_t rfl rfl) ?_
    refine lx_nil ?_
    refine wk_cond_t rfl ?_
    refine wk_seq ?_
    refine wk_region ?_
    refine lx_call (want rfl) (ent_func cf_19 args0) (awake_ct w2) ?_
    rintro _ w3 E13 rfl
    have F22 := F2.ext E13
    have hz13 := E13.size
    refine lx_value (want rfl) (as_bool rfl) ?_
    refine lx_nil ?_
    refine wk_ret ?_
    refine retR1 Tryz.results7 (.tmp (t_bool rfl)) F22 ?_
    exact rfl

end Go.Proofs.YtnhgfmbmfjmonaaGreatDoor

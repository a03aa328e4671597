/- What functions compute: cellsdoes. -/
import Derived.Test.YtnhgfmbmfjmonaaGreatDoorDoesFacts
import Derived.Test.YtnhgfmbmfjmonaaGreatDoorDoesPre
import Derived.Test.YtnhgfmbmfjmonaaGreatDoorDoesWalk1
import Derived.Test.YtnhgfmbmfjmonaaGreatDoorDoesWalk14
import Derived.Test.YtnhgfmbmfjmonaaGreatDoorDoesWalk17
import Derived.Test.YtnhgfmbmfjmonaaGreatDoorDoesWalk20
import Derived.Test.YtnhgfmbmfjmonaaGreatDoorDoesWalk4
set_option maxRecDepth 100000
set_option linter.unusedVariables false
set_option linter.unusedSimpArgs false
namespace Go.Proofs.YtnhgfmbmfjmonaaGreatDoor
open Go Go.RowKit Go.Mix Go.Eng
set_option maxHeartbeats 2000000 in
set_option maxRecDepth 100000 in
theorem cellsdoes_ct (m : Mem) (s : Option Addr) (c : Nat) (G : Nat → Prop) (o : Op) (hk : 0 ≤ o.kind ∧ o.kind < 256) (w0 : World) (hm : MemS G w0 s m) :
    CT Tryz.prog 8 [.agg #[.slice s m.length c], .agg #[.int .u8 o.kind, .int .u8 o.v.1, .int .i64 o.v.2, .int .u8 o.ix.1, .int .i64 o.ix.2, .int .u8 o.val.1, .int .i64 o.val.2, .int .i64 o.rd]] w0 no (fun v _ => v = .bool true) := by
  have hbd := DoR_bd (m := m) (o := o)
  have F0 := Fr.refl no w0
  refine ct_body Tryz.func8 rfl Tryz.ntmps8 (Nat.le_of_ble_eq_true rfl) ?_
  refine wk_seq ?_
  refine wk_region ?_
  refine lx_new (want rfl) (rn_box (t_agg rfl)) ?_
  intro b1 w1 hb1 Eb1 B1 hlb1
  have F1 := F0.ext Eb1
  have hzb1 := Eb1.size
  refine lx_new (want rfl) (rn_box (t_agg rfl)) ?_
  intro b2 w2 hb2 Eb2 B2 hlb2
  have F2 := F1.ext Eb2
  have hzb2 := Eb2.size
  refine lx_value (want rfl) (as_bool rfl) ?_
  refine lx_nil ?_
  refine wk_seq ?_
  refine wk_seq ?_
  refine wk_region ?_
  refine lx_value (want rfl) (rn_loadBlk ag_24 sz_24 rfl (B1.ext Eb2) rfl rfl) ?_
  refine lx_call (want rfl) (ent_func cf_18 (argsC (t_agg rfl) args0)) (thin_ct m _ _ _ w2 (hm.fr (st_stab _) F2 (fun _ _ h => h))) ?_
  rintro _ w3 E1 rfl
  have F3 := F2.ext E1
  have hz1 := E1.size
  refine lx_split (fun ht => ?_) (fun ht => ?_)
  ·
    have hBt := thin_Bm ht
    refine lx_value (want rfl) (rn_not rfl) ?_
    refine lx_nil ?_
    refine wk_cond_f rfl ?_
    refine wk_skip ?_
    refine wk_seq ?_
    refine wk_region ?_
    refine lx_value (want rfl) (rn_loadBlk ag_24 sz_24 rfl ((B1.ext Eb2).ext E1) rfl rfl) ?_
    refine lx_call (want rfl) (ent_func cf_20 (argsC (t_agg rfl) args0)) (((copy_ct m _ _ _ hBt w3 (hm.fr (st_stab _) F3 (fun _ _ h => h))).mono (fun _ _ h => h) (fun _ _ _ h => h.read))) ?_
    rintro _ w4 E2 ⟨sC1, cC1, rfl, hMC1⟩
    have F4 := F3.ext E2
    have hz2 := E2.size
    refine lx_new (want rfl) (rn_alloc ze_24) ?_
    intro b3 w5 hb3 Eb3 B3 hlb3
    have F5 := F4.ext Eb3
    have hzb3 := Eb3.size
    refine lx_set (want rfl) sz_24 rfl (t_agg rfl) rfl rfl rfl B3 (Nat.le_of_ble_eq_true rfl) ?_
    intro w6 Es1 Bs1
    have F6 := F5.set Es1 (by omega)
    have hzs1 := Es1.size
    refine lx_nil ?_
    refine wk_seq ?_
    refine wk_region ?_
    refine lx_value (want rfl) (rn_loadBlk ag_24 sz_24 rfl Bs1 rfl rfl) ?_
    refine lx_value (want rfl) (rn_loadBlk ag_38 sz_38 rfl ((((B2.ext E1).ext E2).ext Eb3).ne Es1 (by omega)) rfl rfl) ?_
    refine lx_call (want rfl) (ent_func cf_43 (argsC (t_agg rfl) (argsC (t_agg rfl) args0))) (pDo_ct m sC1 cC1 _ hBt o hk w6 (hMC1.fr (st_stab _) (Fr.trans (Fr.ext (Fr.refl (fun k => k = b3) w4) Eb3) Es1 (fun k _ h => h)) (fun k hk h => by have hk := hk.2; first | exact (show False from h) | ((try dsimp only at h); omega) | (rcases (show _ ∨ _ from h) with h | h <;> omega)))) ?_
    rintro _ w7 E3 ⟨sR, nR, cR, st, ct, rfl, rfl, hMg, hTg⟩
    have F7 := F6.ext E3
    have hz3 := E3.size
    refine lx_value (want rfl) (mv_tuple rfl) ?_
    refine lx_value (want rfl) (rn_extract rfl rfl) ?_
    refine lx_value (want rfl) (rn_extract rfl rfl) ?_
    refine lx_value (want rfl) (rn_extract rfl rfl) ?_
    refine lx_value (want rfl) (rn_extract rfl rfl) ?_
    refine lx_new (want rfl) (rn_alloc ze_24) ?_
    intro b4 w8 hb4 Eb4 B4 hlb4
    have F8 := F7.ext Eb4
    have hzb4 := Eb4.size
    refine lx_new (want rfl) (rn_alloc ze_36) ?_
    intro b5 w9 hb5 Eb5 B5 hlb5
    have F9 := F8.ext Eb5
    have hzb5 := Eb5.size
    refine lx_set (want rfl) sz_24 rfl (t_agg rfl) rfl rfl rfl (B4.ext Eb5) (Nat.le_of_ble_eq_true rfl) ?_
    intro w10 Es2 Bs2
    have F10 := F9.set Es2 (by omega)
    have hzs2 := Es2.size
    refine lx_set (want rfl) sz_36 rfl (t_agg rfl) rfl rfl rfl (B5.ne Es2 (by omega)) (Nat.le_of_ble_eq_true rfl) ?_
    intro w11 Es3 Bs3
    have F11 := F10.set Es3 (by omega)
    have hzs3 := Es3.size
    refine lx_value (want rfl) (as_slice rfl) ?_
    refine lx_value (want rfl) (as_int rfl) ?_
    refine lx_nil ?_
    refine wk_seq ?_
    refine wk_mix 14 (fun kS => match kS with | 1 => .any (fun I v w => ∃ s c, v = .agg #[.slice s m.length c] ∧ MemS (Iv I.1 I.2) w s m) | 3 => .any (fun I v w => w11.heap.size ≤ I.1 ∧ OutDI I w v (DoR m o)) | 9 => .any (fun I v w => v = .pointer (some ⟨I.1, 0, none⟩) ∧ w11.heap.size ≤ I.1 ∧ I.1 < I.2 ∧ Blk w I.1 [.slice none 0 0] 24) | 10 => .any (fun I v w => v = .pointer (some ⟨I.1, 0, none⟩) ∧ w11.heap.size ≤ I.1 ∧ I.1 < I.2 ∧ Blk w I.1 [.int .u8 0, .int .i64 0] 36) | 11 => .sto 10 33 (fun J u w => J.1 < J.2 ∧ Blk w J.1 u.cells.toList 24) | 12 => .sto 11 34 (fun J u w => J.1 < J.2 ∧ Blk w J.1 u.cells.toList 36) | _ => .none) (by kernel_rfl) (by kernel_rfl) (by intro kS G hk; (try dsimp only at hk); (split at hk) <;> first | (cases hk; done) | (injection hk with hk; subst hk; exact ⟨by intro j hkj I v w w' hR hG; first | exact hG | (obtain ⟨s, c, h1, h2⟩ := hG; exact ⟨s, c, h1, h2.fr (st_stab _) hR (fun _ _ h => h)⟩) | (exact ⟨hG.1, hG.2.fr hR (fun _ _ h => h)⟩) | (obtain ⟨h1, h2, hI, h3⟩ := hG; exact ⟨h1, h2, hI, h3.ext hR⟩) | (obtain ⟨h1, h2, hI, h3⟩ := hG; exact ⟨h1, h2, hI, h3.ext hR⟩), fun _ I v w w' hR hG => by first | exact hG | (obtain ⟨s, c, h1, h2⟩ := hG; exact ⟨s, c, h1, h2.fr (st_stab _) hR (fun k hk h => h.2 hk)⟩) | (exact ⟨hG.1, hG.2.fr hR (fun k hk h => h.2 hk)⟩) | (obtain ⟨h1, h2, hI, h3⟩ := hG; exact ⟨h1, h2, hI, h3.fr hR (fun h => h.2 ⟨Nat.le_refl _, hI⟩)⟩) | (obtain ⟨h1, h2, hI, h3⟩ := hG; exact ⟨h1, h2, hI, h3.fr hR (fun h => h.2 ⟨Nat.le_refl _, hI⟩)⟩)⟩)) (by intro kS s y G hk; (try dsimp only at hk); (split at hk) <;> first | (cases hk; done) | (injection hk with hk1 hk2 hk3; subst hk1; subst hk2; subst hk3; exact ⟨by kernel_rfl, by intro j hkj I v w w' hR hG; exact ⟨hG.1, hG.2.ext hR⟩, fun I v w w' hR hG => ⟨hG.1, hG.2.fr hR (fun h => h.2 ⟨Nat.le_refl _, hG.1⟩)⟩⟩)) ?_
    simp only [List.take_succ_cons, List.take_zero, List.take_nil, List.drop_succ_cons, List.drop_zero, List.drop_nil]
    refine mx_calm rfl (want rfl) (fun u1 eu1 fu1 => rn_loadBlk ag_24 sz_24 rfl (((((((((((B1.ext Eb2).ext E1).ext E2).ext Eb3).ne Es1 (by omega)).ext E3).ext Eb4).ext Eb5).ne Es2 (by omega)).ne Es3 (by omega)).ext ((ext_drawn _).trans' eu1)) rfl rfl) ?_
    refine mx_any rfl rfl (want rfl) (fun u2 eu2 fu2 => do_call (ent_func cf_20 (argsC (t_agg rfl) args0)) (copy_ct m _ _ _ hBt u2 (hm.fr (st_stab _) (F11.ext ((ext_drawn _).trans' eu2)) (fun _ _ h => h))) (fun v w' E h => ⟨E, h.read⟩)) (fun I30 v30 => ?_)
    refine mx_calm rfl (want rfl) (fun u3 eu3 fu3 => rn_loadBlk ag_38 sz_38 rfl ((((((((((B2.ext E1).ext E2).ext Eb3).ne Es1 (by omega)).ext E3).ext Eb4).ext Eb5).ne Es2 (by omega)).ne Es3 (by omega)).ext ((ext_drawn _).trans' eu3)) rfl rfl) ?_
    refine mx_any rfl rfl (want rfl) (fun u4 eu4 fu4 => by obtain ⟨s30, c30, rfl, hM30⟩ := fu4 30 _ rfl (show (30 : Nat) ∈ _ from by decide); exact do_call (ent_func cf_44 (argsC (t_agg rfl) (argsC (t_agg rfl) args0))) (refdo_ct m s30 c30 _ hBt o hk u4 hM30) (fun v w' E h => ⟨E, ⟨((ext_drawn _).trans' eu4).size, h⟩⟩)) (fun I32 v32 => ?_)
    refine mx_calm (v := .tuple #[.agg #[.slice (sad (aget (tget v32 0) 0)) (sln (aget (tget v32 0) 0)) (scp (aget (tget v32 0) 0))], .agg #[.int .u8 (DoR m o).2.2.1.1, .int .i64 (DoR m o).2.2.1.2], .slice (sad (tget v32 2)) (sln (tget v32 2)) (scp (tget v32 2)), .int .i64 (DoR m o).1]) rfl (want rfl) (fun u5 eu5 fu5 => by obtain ⟨_, s5, n5, c5, t5, d5, rfl, _⟩ := fu5 32 _ rfl (show (32 : Nat) ∈ _ from by decide); exact rn_move rfl) ?_
    refine mx_calm rfl (want rfl) (fun u6 eu6 fu6 => rn_extract rfl rfl) ?_
    refine mx_calm rfl (want rfl) (fun u7 eu7 fu7 => rn_extract rfl rfl) ?_
    refine mx_calm rfl (want rfl) (fun u8 eu8 fu8 => rn_extract rfl rfl) ?_
    refine mx_calm rfl (want rfl) (fun u9 eu9 fu9 => rn_extract rfl rfl) ?_
    refine mx_any rfl rfl (want rfl) (fun u10 eu10 fu10 => (do_new3 (rn_alloc ze_24) (show _ ≤ _ from (((ext_drawn _).trans' eu10)).size)).mono (fun v w' h => ⟨h.1, h.2⟩)) (fun I10 v10 => ?_)
    refine mx_any rfl rfl (want rfl) (fun u11 eu11 fu11 => (do_new3 (rn_alloc ze_36) (show _ ≤ _ from (((ext_drawn _).trans' eu11)).size)).mono (fun v w' h => ⟨h.1, h.2⟩)) (fun I11 v11 => ?_)
    refine mx_sto rfl rfl rfl rfl (want rfl) (fun u12 eu12 fu12 _ => by obtain ⟨rfl, hl10, hi10, hB10⟩ := fu12 10 _ rfl (show (10 : Nat) ∈ _ from by decide); exact (do_sto sz_24 rfl rfl rfl rfl rfl hB10 rfl ⟨Nat.le_refl _, hi10⟩).mono (fun v w' h => ⟨h.1, h.2.1, hi10, h.2.2⟩)) ?_
    refine mx_sto rfl rfl rfl rfl (want rfl) (fun u13 eu13 fu13 _ => by obtain ⟨rfl, hl11, hi11, hB11⟩ := fu13 11 _ rfl (show (11 : Nat) ∈ _ from by decide); exact (do_sto sz_36 rfl rfl rfl rfl rfl hB11 rfl ⟨Nat.le_refl _, hi11⟩).mono (fun v w' h => ⟨h.1, h.2.1, hi11, h.2.2⟩)) ?_
    refine mx_calm rfl (want rfl) (fun u14 eu14 fu14 => as_slice rfl) ?_
    refine mx_nil (fun w12 E4' H1 HS => ?_)
    have E4 := (ext_drawn _).trans' E4'
    have F12 := F11.ext E4
    have hz4 := E4.size
    have hI11 := (HS.1 11 _ rfl).2
    have hI10 := (HS.1 10 _ rfl).2
    have hI32 := (HS.1 32 _ rfl).2
    have hI30 := (HS.1 30 _ rfl).2
    have hX11_10 := HS.2 11 _ 10 _ rfl rfl (show (11 : Nat) ≠ 10 from by decide)
    have hX11_32 := HS.2 11 _ 32 _ rfl rfl (show (11 : Nat) ≠ 32 from by decide)
    have hX11_30 := HS.2 11 _ 30 _ rfl rfl (show (11 : Nat) ≠ 30 from by decide)
    have hX10_32 := HS.2 10 _ 32 _ rfl rfl (show (10 : Nat) ≠ 32 from by decide)
    have hX10_30 := HS.2 10 _ 30 _ rfl rfl (show (10 : Nat) ≠ 30 from by decide)
    have hX32_30 := HS.2 32 _ 30 _ rfl rfl (show (32 : Nat) ≠ 30 from by decide)
    simp only at hI11
    simp only at hI10
    simp only at hI32
    simp only at hI30
    simp only at hX11_10
    simp only at hX11_32
    simp only at hX11_30
    simp only at hX10_32
    simp only at hX10_30
    simp only at hX32_30
    have g11 := H1 11 _ rfl
    obtain ⟨⟨_, hv11, hb11, _, _⟩, hi11, hB11⟩ := g11; subst hv11; have hlb11 := hB11.lt
    have g10 := H1 10 _ rfl
    obtain ⟨⟨_, hv10, hb10, _, _⟩, hi10, hB10⟩ := g10; subst hv10; have hlb10 := hB10.lt
    have g32 := H1 32 _ rfl
    obtain ⟨hI32a, sD, nD, cD, stD, ctD, rfl, rfl, hMg2, hTg2⟩ := g32
    have g30 := H1 30 _ rfl
    refine lx_value (want rfl) (as_int rfl) ?_
    refine lx_nil ?_
    refine wk_seq ?_
    refine wk_region ?_
    refine lx_value (want rfl) (rn_loadBlk ag_24 sz_24 rfl ((Bs2.ne Es3 (by omega)).ext E4) rfl rfl) ?_
    refine lx_value (want rfl) (rn_loadBlk ag_24 sz_24 rfl hB10 rfl rfl) ?_
    refine lx_call (want rfl) (ent_func cf_24 (argsC (t_agg rfl) (argsC (t_agg rfl) args0))) (samemem_ct _ _ _ _ _ _ _ _ hbd.1 w12 (hMg.fr (st_stab _) (Fr.ext (Fr.trans (Fr.trans (Fr.ext (Fr.ext (Fr.refl (fun k => k = b4 ∨ k = b5) w7) Eb4) Eb5) Es2 (fun k _ h => (.inl h))) Es3 (fun k _ h => (.inr h))) E4) (fun k hk h => by have hk := hk.2; first | exact (show False from h) | ((try dsimp only at h); omega) | (rcases (show _ ∨ _ from h) with h | h <;> omega))) (hMg2.fr (st_stab _) (Fr.refl no w12) (fun k hk h => by have hk := hk.2; first | exact (show False from h) | ((try dsimp only at h); omega) | (rcases (show _ ∨ _ from h) with h | h <;> omega)))) ?_
    rintro _ w13 E5 rfl
    have F13 := F12.ext E5
    have hz5 := E5.size
    refine lx_b_t (decide_eq_true rfl) ?_
    refine lx_value (want rfl) (mv_bool rfl) ?_
    refine lx_value (want_if (j := 3) (d := 40) (x := true) (y := true) rfl rfl (by decide) rfl) (rn_loadBlk ag_36 sz_36 rfl ((Bs3.ext E4).ext E5) rfl rfl) ?_
    refine lx_value (want_if (j := 3) (d := 40) (x := true) (y := true) rfl rfl (by decide) rfl) (rn_loadBlk ag_36 sz_36 rfl (hB11.ext E5) rfl rfl) ?_
    refine lx_value (want_if (j := 3) (d := 40) (x := true) (y := true) rfl rfl (by decide) rfl) (rn_cmpS (t_agg rfl) (t_agg rfl) (geql_36 _ _ _ _) (eql_36 _ _ _ _)) ?_
    refine lx_dec_t (⟨rfl, rfl⟩) ?_
    refine lx_value (want rfl) (pick_t rfl rfl) ?_
    refine lx_value (want rfl) (mv_bool rfl) ?_
    refine lx_value (want_if (j := 8) (d := 45) (x := true) (y := true) rfl rfl (by decide) rfl) (mv_slice rfl) ?_
    refine lx_value (want_if (j := 8) (d := 45) (x := true) (y := true) rfl rfl (by decide) rfl) (mv_slice rfl) ?_
    refine lx_call (want_if (j := 8) (d := 45) (x := true) (y := true) rfl rfl (by decide) rfl) (ent_func cf_26 (argsC (t_slice rfl) (argsC (t_slice rfl) args0))) (sametold_ct _ _ _ _ _ _ _ _ w13 (hTg.fr (tl_stab _) (Fr.ext (Fr.ext (Fr.trans (Fr.trans (Fr.ext (Fr.ext (Fr.refl (fun k => k = b4 ∨ k = b5) w7) Eb4) Eb5) Es2 (fun k _ h => (.inl h))) Es3 (fun k _ h => (.inr h))) E4) E5) (fun k hk h => by have hk := hk.2; first | exact (show False from h) | ((try dsimp only at h); omega) | (rcases (show _ ∨ _ from h) with h | h <;> omega))) (hTg2.fr (tl_stab _) (Fr.ext (Fr.refl no w12) E5) (fun k hk h => by have hk := hk.2; first | exact (show False from h) | ((try dsimp only at h); omega) | (rcases (show _ ∨ _ from h) with h | h <;> omega))) hbd.2) ?_
    rintro _ w14 E6 rfl
    have F14 := F13.ext E6
    have hz6 := E6.size
    refine lx_b_t (decide_eq_true rfl) ?_
    refine lx_value (want rfl) (pick_t rfl rfl) ?_
    refine lx_value (want rfl) (mv_bool rfl) ?_
    refine lx_value (want_if (j := 13) (d := 50) (x := true) (y := true) rfl rfl (by decide) rfl) (mv_int rfl) ?_
    refine lx_value (want_if (j := 13) (d := 50) (x := true) (y := true) rfl rfl (by decide) rfl) (mv_int rfl) ?_
    refine lx_value (want_if (j := 13) (d := 50) (x := true) (y := true) rfl rfl (by decide) rfl) (rn_eql rfl rfl) ?_
    refine lx_dec_t (rfl) ?_
    refine lx_value (want rfl) (pick_t rfl rfl) ?_
    refine lx_value (want rfl) (mv_bool rfl) ?_
    refine lx_value (want_if (j := 18) (d := 55) (x := true) (y := true) rfl rfl (by decide) rfl) (rn_loadBlk ag_24 sz_24 rfl ((((((((Bs1.ext E3).ext Eb4).ext Eb5).ne Es2 (by omega)).ne Es3 (by omega)).ext E4).ext E5).ext E6) rfl rfl) ?_
    refine lx_value (want_if (j := 18) (d := 55) (x := true) (y := true) rfl rfl (by decide) rfl) (rn_loadBlk ag_24 sz_24 rfl (((((((((((((B1.ext Eb2).ext E1).ext E2).ext Eb3).ne Es1 (by omega)).ext E3).ext Eb4).ext Eb5).ne Es2 (by omega)).ne Es3 (by omega)).ext E4).ext E5).ext E6) rfl rfl) ?_
    refine lx_call (want_if (j := 18) (d := 55) (x := true) (y := true) rfl rfl (by decide) rfl) (ent_func cf_24 (argsC (t_agg rfl) (argsC (t_agg rfl) args0))) (samemem_ct m _ _ _ m _ _ _ hBt w14 (hMC1.fr (st_stab _) (Fr.ext (Fr.ext (Fr.ext (Fr.trans (Fr.trans (Fr.ext (Fr.ext (Fr.ext (Fr.trans (Fr.ext (Fr.refl (fun k => k = b3 ∨ k = b4 ∨ k = b5) w4) Eb3) Es1 (fun k _ h => (.inl h))) E3) Eb4) Eb5) Es2 (fun k _ h => (.inr (.inl h)))) Es3 (fun k _ h => (.inr (.inr h)))) E4) E5) E6) (fun k hk h => by have hk := hk.2; first | exact (show False from h) | ((try dsimp only at h); omega) | (rcases (show _ ∨ _ from h) with h | h <;> omega))) (hm.fr (st_stab _) F14 (fun _ _ h => h))) ?_
    rintro _ w15 E7 rfl
    have F15 := F14.ext E7
    have hz7 := E7.size
    refine lx_b_t (decide_eq_true rfl) ?_
    refine lx_value (want rfl) (pick_t rfl rfl) ?_
    refine lx_value (want rfl) (mv_bool rfl) ?_
    refine lx_call (want_if (j := 23) (d := 60) (x := true) (y := true) rfl rfl (by decide) rfl) (ent_func cf_19 args0) (awake_ct w15) ?_
    rintro _ w16 E8 rfl
    have F16 := F15.ext E8
    have hz8 := E8.size
    refine lx_value (want rfl) (pick_t rfl rfl) ?_
    refine lx_value (want rfl) (as_bool rfl) ?_
    refine lx_nil ?_
    refine wk_ret ?_
    refine retR1 Tryz.results8 (.tmp (t_bool rfl)) F16 ?_
    exact rfl
  ·
    refine lx_value (want rfl) (rn_not rfl) ?_
    refine lx_nil ?_
    refine wk_cond_t rfl ?_
    refine wk_seq ?_
    refine wk_region ?_
    refine lx_call (want rfl) (ent_func cf_19 args0) (awake_ct w3) ?_
    rintro _ w4 E9 rfl
    have F17 := F3.ext E9
    have hz9 := E9.size
    refine lx_value (want rfl) (as_bool rfl) ?_
    refine lx_nil ?_
    refine wk_ret ?_
    refine retR1 Tryz.results8 (.tmp (t_bool rfl)) F17 ?_
    exact rfl

end Go.Proofs.YtnhgfmbmfjmonaaGreatDoor

/- What functions compute: pispic. -/
import Derived.Test.YtnhgfmbmfjmonaaGreatDoorNamesFacts
import Derived.Test.YtnhgfmbmfjmonaaGreatDoorNamesPre
import Derived.Test.YtnhgfmbmfjmonaaGreatDoorNamesWalk13
import Derived.Test.YtnhgfmbmfjmonaaGreatDoorNamesWalk4
import Derived.Test.YtnhgfmbmfjmonaaGreatDoorNamesWalk9
set_option maxRecDepth 100000
set_option linter.unusedVariables false
set_option linter.unusedSimpArgs false
namespace Go.Proofs.YtnhgfmbmfjmonaaGreatDoor
open Go Go.RowKit Go.Mix Go.Eng
theorem pispic_ct (p : Pic) (sv : Option Addr) (cv : Nat) (sk : Option Addr) (ck : Nat) (G : Nat → Prop) (hB : Bp p) (w0 : World) (hv : VlS G w0 sv p.1) (hk : VvS G w0 sk p.2) :
  CT Tryz.prog 33 [.agg #[.slice sv p.1.length cv, .slice sk p.2.length ck]] w0 no (fun v _ => v = .bool (isPicB p)) := by
 have hB1 := hB.1
 have hB2 := hB.2.1
 have F0 := Fr.refl no w0
 refine ct_body Tryz.func33 rfl Tryz.ntmps33 (Nat.le_of_ble_eq_true rfl) ?_
 refine wk_seq ?_
 refine wk_region ?_
 refine lx_new (want rfl) (rn_box (t_agg rfl)) ?_
 intro b1 w1 hb1 Eb1 B1 hlb1
 have F1 := F0.ext Eb1
 have hzb1 := Eb1.size
 refine lx_value (want rfl) (as_bool rfl) ?_
 refine lx_nil ?_
 refine wk_seq ?_
 refine wk_mix 11 (fun kS => match kS with | 2 => .any (fun I v w => ∃ s c, v = .agg #[.slice s (memC p.2).length c] ∧ MemS (Iv I.1 I.2) w s (memC p.2)) | 5 => .any (fun I v w => ∃ pv, v = .tuple #[pv, .int .i64 (drawR (memC p.2) p.1).1] ∧ PicI I w pv (drawR (memC p.2) p.1).2) | 9 => .any (fun I v w => v = .pointer (some ⟨I.1, 0, none⟩) ∧ w1.heap.size ≤ I.1 ∧ I.1 < I.2 ∧ Blk w I.1 [.slice none 0 0, .slice none 0 0] 45) | 10 => .sto 3 12 (fun J u w => J.1 < J.2 ∧ Blk w J.1 u.cells.toList 45) | _ => .none) (by kernel_rfl) (by kernel_rfl) (by intro kS G hk; (try dsimp only at hk); (split at hk) <;> first | (cases hk; done) | (injection hk with hk; subst hk; exact ⟨by intro j hkj I v w w' hR hG; first | exact hG | (obtain ⟨s, c, h1, h2⟩ := hG; exact ⟨s, c, h1, h2.fr (st_stab _) hR (fun _ _ h => h)⟩) | (obtain ⟨pv, h1, h2⟩ := hG; exact ⟨pv, h1, h2.fr hR (fun _ _ h => h)⟩) | (obtain ⟨h1, h2, hI, h3⟩ := hG; exact ⟨h1, h2, hI, h3.ext hR⟩), fun _ I v w w' hR hG => by first | exact hG | (obtain ⟨s, c, h1, h2⟩ := hG; exact ⟨s, c, h1, h2.fr (st_stab _) hR (fun k hk h => h.2 hk)⟩) | (obtain ⟨pv, h1, h2⟩ := hG; exact ⟨pv, h1, h2.fr hR (fun k hk h => h.2 hk)⟩) | (obtain ⟨h1, h2, hI, h3⟩ := hG; exact ⟨h1, h2, hI, h3.fr hR (fun h => h.2 ⟨Nat.le_refl _, hI⟩)⟩)⟩)) (by intro kS s y G hk; (try dsimp only at hk); (split at hk) <;> first | (cases hk; done) | (injection hk with hk1 hk2 hk3; subst hk1; subst hk2; subst hk3; exact ⟨by kernel_rfl, by intro j hkj I v w w' hR hG; exact ⟨hG.1, hG.2.ext hR⟩, fun I v w w' hR hG => ⟨hG.1, hG.2.fr hR (fun h => h.2 ⟨Nat.le_refl _, hG.1⟩)⟩⟩)) ?_
 simp only [List.take_succ_cons, List.take_zero, List.take_nil, List.drop_succ_cons, List.drop_zero, List.drop_nil]
 refine mx_calm rfl (want rfl) (fun u1 eu1 fu1 => rn_fieldAddr fa_45_1 rfl) ?_
 refine mx_calm rfl (want rfl) (fun u2 eu2 fu2 => rn_load1Blk ag_43 rfl (B1.ext ((ext_drawn _).trans' eu2)) rfl) ?_
 refine mx_any rfl rfl (want rfl) (fun u3 eu3 fu3 => do_call (ent_func cf_79 (argsC (t_slice rfl) args0)) (pofcells_ct p.2 sk ck G hB.2.1 hB.2.2 u3 (hk.fr (vv_stab _) (F1.ext ((ext_drawn _).trans' eu3)) (fun _ _ h => h))) (fun v w' E h => ⟨E, h.read⟩)) (fun I8 v8 => ?_)
 refine mx_calm rfl (want rfl) (fun u4 eu4 fu4 => rn_fieldAddr fa_45_0 rfl) ?_
 refine mx_calm rfl (want rfl) (fun u5 eu5 fu5 => rn_load1Blk ag_30 rfl (B1.ext ((ext_drawn _).trans' eu5)) rfl) ?_
 refine mx_any rfl rfl (want rfl) (fun u6 eu6 fu6 => by obtain ⟨sM8, cM8, rfl, hM8⟩ := fu6 8 _ rfl (show (8 : Nat) ∈ _ from by decide); exact do_call (ent_func cf_30 (argsC (t_agg rfl) (argsC (t_slice rfl) args0))) (pDraw_ct (memC p.2) sM8 cM8 _ (memC_Bm hB.2.1 hB.2.2) p.1 sv cv G hB.1 u6 hM8 (hv.fr (vl_stab _) (F1.ext ((ext_drawn _).trans' eu6)) (fun _ _ h => h))) (fun v w' E h => ⟨E, h⟩)) (fun I11 v11 => ?_)
 refine mx_calm (v := .tuple #[.agg #[.slice (sad (aget (tget v11 0) 0)) (sln (aget (tget v11 0) 0)) (scp (aget (tget v11 0) 0)), .slice (sad (aget (tget v11 0) 1)) (sln (aget (tget v11 0) 1)) (scp (aget (tget v11 0) 1))], .int .i64 (drawR (memC p.2) p.1).1]) rfl (want rfl) (fun u7 eu7 fu7 => by obtain ⟨pv, rfl, s1, c1, s2, c2, rfl, _, _⟩ := fu7 11 _ rfl (show (11 : Nat) ∈ _ from by decide); exact rn_move rfl) ?_
 refine mx_calm rfl (want rfl) (fun u8 eu8 fu8 => rn_extract rfl rfl) ?_
 refine mx_calm rfl (want rfl) (fun u9 eu9 fu9 => rn_extract rfl rfl) ?_
 refine mx_any rfl rfl (want rfl) (fun u10 eu10 fu10 => (do_new3 (rn_alloc ze_45) (show _ ≤ _ from (((ext_drawn _).trans' eu10)).size)).mono (fun v w' h => ⟨h.1, h.2⟩)) (fun I3 v3 => ?_)
 refine mx_sto rfl rfl rfl rfl (want rfl) (fun u11 eu11 fu11 _ => by obtain ⟨rfl, hl3, hi3, hB3⟩ := fu11 3 _ rfl (show (3 : Nat) ∈ _ from by decide); exact (do_sto sz_45 rfl rfl rfl rfl rfl hB3 rfl ⟨Nat.le_refl _, hi3⟩).mono (fun v w' h => ⟨h.1, h.2.1, hi3, h.2.2⟩)) ?_
 refine mx_nil (fun w2 E1' H1 HS => ?_)
 have E1 := (ext_drawn _).trans' E1'
 have F2 := F1.ext E1
 have hz1 := E1.size
 have hI3 := (HS.1 3 _ rfl).2
 have hI11 := (HS.1 11 _ rfl).2
 have hI8 := (HS.1 8 _ rfl).2
 have hX3_11 := HS.2 3 _ 11 _ rfl rfl (show (3 : Nat) ≠ 11 from by decide)
 have hX3_8 := HS.2 3 _ 8 _ rfl rfl (show (3 : Nat) ≠ 8 from by decide)
 have hX11_8 := HS.2 11 _ 8 _ rfl rfl (show (11 : Nat) ≠ 8 from by decide)
 simp only at hI3
 simp only at hI11
 simp only at hI8
 simp only at hX3_11
 simp only at hX3_8
 simp only at hX11_8
 have g3 := H1 3 _ rfl
 obtain ⟨⟨_, hv3, hb3, _, _⟩, hi3, hB3⟩ := g3; subst hv3; have hlb3 := hB3.lt
 have g11 := H1 11 _ rfl
 obtain ⟨pv, rfl, hPI⟩ := g11
 obtain ⟨s1, c1, s2, c2, rfl, hV1, hV2⟩ := hPI
 have g8 := H1 8 _ rfl
 refine lx_value (want rfl) (as_int rfl) ?_
 refine lx_nil ?_
 refine wk_seq ?_
 refine wk_region ?_
 refine lx_value (want rfl) (mv_int rfl) ?_
 refine lx_value (want rfl) (rn_eql rfl rfl) ?_
 refine lx_dec (fun he => ?_) (fun he => ?_)
 ·
  refine lx_value (want rfl) (mv_bool rfl) ?_
  refine lx_value (want_if (j := 2) (d := 16) (x := true) (y := true) rfl rfl (by decide) rfl) (rn_loadBlk ag_45 sz_45 rfl (B1.ext E1) rfl rfl) ?_
  refine lx_value (want_if (j := 2) (d := 16) (x := true) (y := true) rfl rfl (by decide) rfl) (rn_loadBlk ag_45 sz_45 rfl hB3 rfl rfl) ?_
  refine lx_call (want_if (j := 2) (d := 16) (x := true) (y := true) rfl rfl (by decide) rfl) (ent_func cf_80 (argsC (t_agg rfl) (argsC (t_agg rfl) args0))) (psame_ct p sv cv sk ck G (drawR (memC p.2) p.1).2 s1 c1 s2 c2 _ (drawR_Bp (memC_Bm hB.2.1 hB.2.2) hB.1) w2 (hv.fr (vl_stab _) F2 (fun _ _ h => h)) (hk.fr (vv_stab _) F2 (fun _ _ h => h)) hV1 hV2) ?_
  rintro _ w3 E2 rfl
  have F3 := F2.ext E2
  have hz2 := E2.size
  refine lx_value (want rfl) (pick_t rfl rfl) ?_
  refine lx_value (want rfl) (as_bool rfl) ?_
  refine lx_nil ?_
  refine wk_ret ?_
  refine retR1 Tryz.results33 (.tmp (t_bool rfl)) F3 ?_
  exact isPic_t he
 ·
  refine lx_value (want rfl) (mv_bool rfl) ?_
  refine lx_skip (want_if (j := 2) (d := 16) (x := true) (y := false) rfl rfl (by decide) rfl) ?_
  refine lx_skip (want_if (j := 2) (d := 16) (x := true) (y := false) rfl rfl (by decide) rfl) ?_
  refine lx_skip (want_if (j := 2) (d := 16) (x := true) (y := false) rfl rfl (by decide) rfl) ?_
  refine lx_value (want rfl) (pick_f rfl rfl) ?_
  refine lx_value (want rfl) (as_bool rfl) ?_
  refine lx_nil ?_
  refine wk_ret ?_
  refine retR1 Tryz.results33 (.tmp (t_bool rfl)) F2 ?_
  exact isPic_f he

end Go.Proofs.YtnhgfmbmfjmonaaGreatDoor

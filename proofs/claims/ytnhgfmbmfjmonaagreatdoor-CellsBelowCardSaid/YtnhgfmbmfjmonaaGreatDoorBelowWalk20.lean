/- What functions compute: cellsbelow. -/
import Derived.Test.YtnhgfmbmfjmonaaGreatDoorBelowFacts
import Derived.Test.YtnhgfmbmfjmonaaGreatDoorBelowPre
import Derived.Test.YtnhgfmbmfjmonaaGreatDoorBelowWalk16
import Derived.Test.YtnhgfmbmfjmonaaGreatDoorBelowWalk18
import Derived.Test.YtnhgfmbmfjmonaaGreatDoorBelowWalk19
import Derived.Test.YtnhgfmbmfjmonaaGreatDoorBelowWalk2
import Derived.Test.YtnhgfmbmfjmonaaGreatDoorBelowWalk6
import Derived.Test.YtnhgfmbmfjmonaaGreatDoorBelowWalk7
import Derived.Test.YtnhgfmbmfjmonaaGreatDoorBelowWalk8
set_option maxRecDepth 100000
set_option linter.unusedVariables false
set_option linter.unusedSimpArgs false
namespace Go.Proofs.YtnhgfmbmfjmonaaGreatDoor
open Go Go.RowKit Go.Mix Go.Eng
set_option maxHeartbeats 4000000 in
set_option maxRecDepth 100000 in
theorem cellsbelow_ct (p : Pic) (sv : Option Addr) (cv : Nat) (sk : Option Addr) (ck : Nat) (G : Nat → Prop) (q : Pic) (sv2 : Option Addr) (cv2 : Nat) (sk2 : Option Addr) (ck2 : Nat) (G2 : Nat → Prop) (w0 : World) (hv : VlS G w0 sv p.1) (hk : VvS G w0 sk p.2) (hv2 : VlS G2 w0 sv2 q.1) (hk2 : VvS G2 w0 sk2 q.2) :
    CT Tryz.prog 12 [.agg #[.slice sv p.1.length cv, .slice sk p.2.length ck], .agg #[.slice sv2 q.1.length cv2, .slice sk2 q.2.length ck2]] w0 no (fun v _ => v = .bool true) := by
  have F0 := Fr.refl no w0
  refine ct_body Tryz.func12 rfl Tryz.ntmps12 (Nat.le_of_ble_eq_true rfl) ?_
  refine wk_seq ?_
  refine wk_region ?_
  refine lx_new (want rfl) (rn_box (t_agg rfl)) ?_
  intro b1 w1 hb1 Eb1 B1 hlb1
  have F1 := F0.ext Eb1
  have hzb1 := Eb1.size
  refine lx_new (want rfl) (rn_box (t_agg rfl)) ?_
  intro b2 w2 hb2 Eb2 B2 hlb2
  have F2 := F1.ext Eb2
  have hzb2 := Eb2.size
  refine lx_value (want rfl) (as_bool rfl) ?_
  refine lx_nil ?_
  refine wk_seq ?_
  refine wk_seq ?_
  refine wk_region ?_
  refine lx_value (want rfl) (rn_loadBlk ag_45 sz_45 rfl (B1.ext Eb2) rfl rfl) ?_
  refine lx_call (want rfl) (ent_func cf_27 (argsC (t_agg rfl) args0)) (thinpic_ct p _ _ _ _ _ w2 (hv.fr (vl_stab _) F2 (fun _ _ h => h)) (hk.fr (vv_stab _) F2 (fun _ _ h => h))) ?_
  rintro _ w3 E1 rfl
  have F3 := F2.ext E1
  have hz1 := E1.size
  refine lx_split (fun ht1 => ?_) (fun ht1 => ?_)
  ·
    have hBp := (thinP_Bp ht1).1
    refine lx_value (want rfl) (rn_not rfl) ?_
    refine lx_value (want rfl) (mv_bool rfl) ?_
    refine lx_value (want_if (j := 3) (d := 18) (x := false) (y := false) rfl rfl (by decide) rfl) (rn_loadBlk ag_45 sz_45 rfl (B2.ext E1) rfl rfl) ?_
    refine lx_call (want_if (j := 3) (d := 18) (x := false) (y := false) rfl rfl (by decide) rfl) (ent_func cf_27 (argsC (t_agg rfl) args0)) (thinpic_ct q _ _ _ _ _ w3 (hv2.fr (vl_stab _) F3 (fun _ _ h => h)) (hk2.fr (vv_stab _) F3 (fun _ _ h => h))) ?_
    rintro _ w4 E2 rfl
    have F4 := F3.ext E2
    have hz2 := E2.size
    refine lx_split (fun ht2 => ?_) (fun ht2 => ?_)
    ·
      have hBq := (thinP_Bp ht2).1
      refine lx_value (want_if (j := 3) (d := 18) (x := false) (y := false) rfl rfl (by decide) rfl) (rn_not rfl) ?_
      refine lx_value (want rfl) (pick_f rfl rfl) ?_
      refine lx_nil ?_
      refine wk_cond_f rfl ?_
      refine wk_skip ?_
      refine wk_seq ?_
      refine wk_mix 6 (fun kS => match kS with | 1 => .any (fun I v w => PicI I w v p) | 3 => .any (fun I v w => PicI I w v q) | 4 => .any (fun I v w => ∃ b, v = .pointer (some ⟨b, 0, none⟩) ∧ w4.heap.size ≤ b ∧ (I.1 ≤ b ∧ b < I.2) ∧ Blk w b [.slice none 0 0, .slice none 0 0] 45) | 5 => .any (fun I v w => ∃ b, v = .pointer (some ⟨b, 0, none⟩) ∧ w4.heap.size ≤ b ∧ (I.1 ≤ b ∧ b < I.2) ∧ Blk w b [.slice none 0 0, .slice none 0 0] 45) | _ => .none) (by kernel_rfl) (by kernel_rfl) (by intro kS G hk; (try dsimp only at hk); (split at hk) <;> first | (cases hk; done) | (injection hk with hk; subst hk; exact ⟨by intro j hkj I v w w' hR hG; first | exact hG | (exact hG.fr hR (fun _ _ h => h)) | (exact hG.fr hR (fun _ _ h => h)) | (obtain ⟨b, h1, h2, hI, h3⟩ := hG; exact ⟨b, h1, h2, hI, h3.ext hR⟩) | (obtain ⟨b, h1, h2, hI, h3⟩ := hG; exact ⟨b, h1, h2, hI, h3.ext hR⟩), fun ⟨_, _, _, _, hs⟩ => by (try dsimp only at hs); split at hs <;> cases hs⟩)) (by intro kS s y G hk; (try dsimp only at hk); split at hk <;> cases hk) ?_
      simp only [List.take_succ_cons, List.take_zero, List.take_nil, List.drop_succ_cons, List.drop_zero, List.drop_nil]
      refine mx_calm rfl (want rfl) (fun u1 eu1 fu1 => rn_loadBlk ag_45 sz_45 rfl ((((B1.ext Eb2).ext E1).ext E2).ext ((ext_drawn _).trans' eu1)) rfl rfl) ?_
      refine mx_any rfl rfl (want rfl) (fun u2 eu2 fu2 => do_call (ent_func cf_29 (argsC (t_agg rfl) args0)) (copypic_ct p sv cv sk ck G hBp u2 (hv.fr (vl_stab _) (F4.ext ((ext_drawn _).trans' eu2)) (fun _ _ h => h)) (hk.fr (vv_stab _) (F4.ext ((ext_drawn _).trans' eu2)) (fun _ _ h => h))) (fun v w' E h => ⟨E, h⟩)) (fun I25 v25 => ?_)
      refine mx_calm rfl (want rfl) (fun u3 eu3 fu3 => rn_loadBlk ag_45 sz_45 rfl (((B2.ext E1).ext E2).ext ((ext_drawn _).trans' eu3)) rfl rfl) ?_
      refine mx_any rfl rfl (want rfl) (fun u4 eu4 fu4 => do_call (ent_func cf_29 (argsC (t_agg rfl) args0)) (copypic_ct q sv2 cv2 sk2 ck2 G2 hBq u4 (hv2.fr (vl_stab _) (F4.ext ((ext_drawn _).trans' eu4)) (fun _ _ h => h)) (hk2.fr (vv_stab _) (F4.ext ((ext_drawn _).trans' eu4)) (fun _ _ h => h))) (fun v w' E h => ⟨E, h⟩)) (fun I27 v27 => ?_)
      refine mx_any rfl rfl (want rfl) (fun u5 eu5 fu5 => (do_new2 (rn_alloc ze_45) (show _ ≤ _ from (((ext_drawn _).trans' eu5)).size)).mono (fun v w' h => ⟨h.1, h.2⟩)) (fun I5 v5 => ?_)
      refine mx_any rfl rfl (want rfl) (fun u6 eu6 fu6 => (do_new2 (rn_alloc ze_45) (show _ ≤ _ from (((ext_drawn _).trans' eu6)).size)).mono (fun v w' h => ⟨h.1, h.2⟩)) (fun I6 v6 => ?_)
      refine mx_nil (fun w5 E3' H1 HS => ?_)
      have E3 := (ext_drawn _).trans' E3'
      have F5 := F4.ext E3
      have hz3 := E3.size
      have hI6 := (HS.1 6 _ rfl).2
      have hI5 := (HS.1 5 _ rfl).2
      have hI27 := (HS.1 27 _ rfl).2
      have hI25 := (HS.1 25 _ rfl).2
      have hX6_5 := HS.2 6 _ 5 _ rfl rfl (show (6 : Nat) ≠ 5 from by decide)
      have hX6_27 := HS.2 6 _ 27 _ rfl rfl (show (6 : Nat) ≠ 27 from by decide)
      have hX6_25 := HS.2 6 _ 25 _ rfl rfl (show (6 : Nat) ≠ 25 from by decide)
      have hX5_27 := HS.2 5 _ 27 _ rfl rfl (show (5 : Nat) ≠ 27 from by decide)
      have hX5_25 := HS.2 5 _ 25 _ rfl rfl (show (5 : Nat) ≠ 25 from by decide)
      have hX27_25 := HS.2 27 _ 25 _ rfl rfl (show (27 : Nat) ≠ 25 from by decide)
      simp only at hI6
      simp only at hI5
      simp only at hI27
      simp only at hI25
      simp only at hX6_5
      simp only at hX6_27
      simp only at hX6_25
      simp only at hX5_27
      simp only at hX5_25
      simp only at hX27_25
      have g6 := H1 6 _ rfl
      (try dsimp only at g6); obtain ⟨b106, hv6, hbb106, hib106, Bb106⟩ := g6; subst hv6; have hlbb106 := Bb106.lt
      have g5 := H1 5 _ rfl
      (try dsimp only at g5); obtain ⟨b105, hv5, hbb105, hib105, Bb105⟩ := g5; subst hv5; have hlbb105 := Bb105.lt
      have g27 := H1 27 _ rfl
      obtain ⟨sA2, cA2, sB2, cB2, rfl, hPV2, hPC2⟩ := g27
      have g25 := H1 25 _ rfl
      obtain ⟨sA1, cA1, sB1, cB1, rfl, hPV1, hPC1⟩ := g25
      refine lx_set (want rfl) sz_45 rfl (t_agg rfl) rfl rfl rfl Bb105 (Nat.le_of_ble_eq_true rfl) ?_
      intro w6 Es1 Bs1
      have F6 := F5.set Es1 (by omega)
      have hzs1 := Es1.size
      refine lx_set (want rfl) sz_45 rfl (t_agg rfl) rfl rfl rfl (Bb106.ne Es1 (by omega)) (Nat.le_of_ble_eq_true rfl) ?_
      intro w7 Es2 Bs2
      have F7 := F6.set Es2 (by omega)
      have hzs2 := Es2.size
      refine lx_nil ?_
      refine wk_seq ?_
      refine wk_region ?_
      refine lx_value (want rfl) (rn_loadBlk ag_45 sz_45 rfl (Bs1.ne Es2 (by omega)) rfl rfl) ?_
      refine lx_value (want rfl) (rn_loadBlk ag_45 sz_45 rfl Bs2 rfl rfl) ?_
      refine lx_call (want rfl) (ent_func cf_57 (argsC (t_agg rfl) (argsC (t_agg rfl) args0))) (pBelow_ct p sA1 cA1 sB1 cB1 _ hBp q sA2 cA2 sB2 cB2 _ hBq w7 (hPV1.fr (vl_stab _) (Fr.trans (Fr.trans (Fr.refl (fun k => k = b105 ∨ k = b106) w5) Es1 (fun k _ h => (.inl h))) Es2 (fun k _ h => (.inr h))) (fun k hk h => by have hk1 := hk.1; have hk2 := hk.2; (try dsimp only at h hk1 hk2); first | exact h.elim | omega | (rcases (show _ ∨ _ from h) with h | h <;> omega))) (hPC1.fr (vv_stab _) (Fr.trans (Fr.trans (Fr.refl (fun k => k = b105 ∨ k = b106) w5) Es1 (fun k _ h => (.inl h))) Es2 (fun k _ h => (.inr h))) (fun k hk h => by have hk1 := hk.1; have hk2 := hk.2; (try dsimp only at h hk1 hk2); first | exact h.elim | omega | (rcases (show _ ∨ _ from h) with h | h <;> omega))) (hPV2.fr (vl_stab _) (Fr.trans (Fr.trans (Fr.refl (fun k => k = b105 ∨ k = b106) w5) Es1 (fun k _ h => (.inl h))) Es2 (fun k _ h => (.inr h))) (fun k hk h => by have hk1 := hk.1; have hk2 := hk.2; (try dsimp only at h hk1 hk2); first | exact h.elim | omega | (rcases (show _ ∨ _ from h) with h | h <;> omega))) (hPC2.fr (vv_stab _) (Fr.trans (Fr.trans (Fr.refl (fun k => k = b105 ∨ k = b106) w5) Es1 (fun k _ h => (.inl h))) Es2 (fun k _ h => (.inr h))) (fun k hk h => by have hk1 := hk.1; have hk2 := hk.2; (try dsimp only at h hk1 hk2); first | exact h.elim | omega | (rcases (show _ ∨ _ from h) with h | h <;> omega)))) ?_
      rintro _ w8 E4 rfl
      have F8 := F7.ext E4
      have hz4 := E4.size
      refine lx_value (want rfl) (mv_tuple rfl) ?_
      refine lx_value (want rfl) (rn_extract rfl rfl) ?_
      refine lx_value (want rfl) (rn_extract rfl rfl) ?_
      refine lx_value (want rfl) (as_bool rfl) ?_
      refine lx_value (want rfl) (as_int rfl) ?_
      refine lx_nil ?_
      refine wk_seq ?_
      refine wk_region ?_
      refine lx_value (want rfl) (rn_loadBlk ag_45 sz_45 rfl (((((((B1.ext Eb2).ext E1).ext E2).ext E3).ne Es1 (by omega)).ne Es2 (by omega)).ext E4) rfl rfl) ?_
      refine lx_value (want rfl) (rn_loadBlk ag_45 sz_45 rfl ((((((B2.ext E1).ext E2).ext E3).ne Es1 (by omega)).ne Es2 (by omega)).ext E4) rfl rfl) ?_
      refine lx_call (want rfl) (ent_func cf_58 (argsC (t_agg rfl) (argsC (t_agg rfl) args0))) (rBelow_ct p sv cv sk ck G hBp q sv2 cv2 sk2 ck2 G2 hBq w8 (hv.fr (vl_stab _) F8 (fun _ _ h => h)) (hk.fr (vv_stab _) F8 (fun _ _ h => h)) (hv2.fr (vl_stab _) F8 (fun _ _ h => h)) (hk2.fr (vv_stab _) F8 (fun _ _ h => h))) ?_
      rintro _ w9 E5 rfl
      have F9 := F8.ext E5
      have hz5 := E5.size
      refine lx_value (want rfl) (mv_tuple rfl) ?_
      refine lx_value (want rfl) (rn_extract rfl rfl) ?_
      refine lx_value (want rfl) (rn_extract rfl rfl) ?_
      refine lx_value (want rfl) (as_bool rfl) ?_
      refine lx_value (want rfl) (as_int rfl) ?_
      refine lx_nil ?_
      refine wk_seq ?_
      refine wk_region ?_
      refine lx_value (want rfl) (rn_loadBlk ag_45 sz_45 rfl (((Bs1.ne Es2 (by omega)).ext E4).ext E5) rfl rfl) ?_
      refine lx_call (want rfl) (ent_func cf_40 (argsC (t_agg rfl) args0)) (pmemory_ct p sA1 cA1 sB1 cB1 _ hBp w9 (hPV1.fr (vl_stab _) (Fr.ext (Fr.ext (Fr.trans (Fr.trans (Fr.refl (fun k => k = b105 ∨ k = b106) w5) Es1 (fun k _ h => (.inl h))) Es2 (fun k _ h => (.inr h))) E4) E5) (fun k hk h => by have hk1 := hk.1; have hk2 := hk.2; (try dsimp only at h hk1 hk2); first | exact h.elim | omega | (rcases (show _ ∨ _ from h) with h | h <;> omega))) (hPC1.fr (vv_stab _) (Fr.ext (Fr.ext (Fr.trans (Fr.trans (Fr.refl (fun k => k = b105 ∨ k = b106) w5) Es1 (fun k _ h => (.inl h))) Es2 (fun k _ h => (.inr h))) E4) E5) (fun k hk h => by have hk1 := hk.1; have hk2 := hk.2; (try dsimp only at h hk1 hk2); first | exact h.elim | omega | (rcases (show _ ∨ _ from h) with h | h <;> omega)))) ?_
      rintro _ w10 E6 ⟨mv, rfl, sM, cM, rfl, hMM⟩
      have F10 := F9.ext E6
      have hz6 := E6.size
      refine lx_value (want rfl) (mv_tuple rfl) ?_
      refine lx_value (want rfl) (rn_extract rfl rfl) ?_
      refine lx_value (want rfl) (rn_extract rfl rfl) ?_
      refine lx_new (want rfl) (rn_alloc ze_24) ?_
      intro b3 w11 hb3 Eb3 B3 hlb3
      have F11 := F10.ext Eb3
      have hzb3 := Eb3.size
      refine lx_set (want rfl) sz_24 rfl (t_agg rfl) rfl rfl rfl B3 (Nat.le_of_ble_eq_true rfl) ?_
      intro w12 Es3 Bs3
      have F12 := F11.set Es3 (by omega)
      have hzs3 := Es3.size
      refine lx_value (want rfl) (as_int rfl) ?_
      refine lx_nil ?_
      refine wk_seq ?_
      refine wk_region ?_
      refine lx_value (want rfl) (rn_loadBlk ag_45 sz_45 rfl (((((((((((B1.ext Eb2).ext E1).ext E2).ext E3).ne Es1 (by omega)).ne Es2 (by omega)).ext E4).ext E5).ext E6).ext Eb3).ne Es3 (by omega)) rfl rfl) ?_
      refine lx_call (want rfl) (ent_func cf_59 (argsC (t_agg rfl) args0)) (refmemoryE_ct p sv cv sk ck G hBp w12 (hv.fr (vl_stab _) F12 (fun _ _ h => h)) (hk.fr (vv_stab _) F12 (fun _ _ h => h))) ?_
      rintro _ w13 E7 ⟨mv2, rfl, sM2, cM2, rfl, hMM2⟩
      have F13 := F12.ext E7
      have hz7 := E7.size
      refine lx_value (want rfl) (mv_tuple rfl) ?_
      refine lx_value (want rfl) (rn_extract rfl rfl) ?_
      refine lx_value (want rfl) (rn_extract rfl rfl) ?_
      refine lx_new (want rfl) (rn_alloc ze_24) ?_
      intro b4 w14 hb4 Eb4 B4 hlb4
      have F14 := F13.ext Eb4
      have hzb4 := Eb4.size
      refine lx_set (want rfl) sz_24 rfl (t_agg rfl) rfl rfl rfl B4 (Nat.le_of_ble_eq_true rfl) ?_
      intro w15 Es4 Bs4
      have F15 := F14.set Es4 (by omega)
      have hzs4 := Es4.size
      refine lx_value (want rfl) (as_int rfl) ?_
      refine lx_nil ?_
      refine wk_seq ?_
      refine wk_region ?_
      refine lx_value (want rfl) (mv_bool rfl) ?_
      refine lx_value (want rfl) (mv_bool rfl) ?_
      refine lx_value (want rfl) (rn_eqlB Tryz.underlying4 rfl rfl) ?_
      refine lx_dec_t (rfl) ?_
      refine lx_value (want rfl) (mv_bool rfl) ?_
      refine lx_value (want_if (j := 3) (d := 53) (x := true) (y := true) rfl rfl (by decide) rfl) (mv_int rfl) ?_
      refine lx_value (want_if (j := 3) (d := 53) (x := true) (y := true) rfl rfl (by decide) rfl) (mv_int rfl) ?_
      refine lx_value (want_if (j := 3) (d := 53) (x := true) (y := true) rfl rfl (by decide) rfl) (rn_eql rfl rfl) ?_
      refine lx_dec_t (rfl) ?_
      refine lx_value (want rfl) (pick_t rfl rfl) ?_
      refine lx_value (want rfl) (mv_bool rfl) ?_
      refine lx_value (want_if (j := 8) (d := 58) (x := true) (y := true) rfl rfl (by decide) rfl) (rn_loadBlk ag_24 sz_24 rfl (((Bs3.ext E7).ext Eb4).ne Es4 (by omega)) rfl rfl) ?_
      refine lx_value (want_if (j := 8) (d := 58) (x := true) (y := true) rfl rfl (by decide) rfl) (rn_loadBlk ag_24 sz_24 rfl Bs4 rfl rfl) ?_
      refine lx_call (want_if (j := 8) (d := 58) (x := true) (y := true) rfl rfl (by decide) rfl) (ent_func cf_24 (argsC (t_agg rfl) (argsC (t_agg rfl) args0))) (samemem_ct _ _ _ _ _ _ _ _ (memE_Bm hBp) w15 (hMM.fr (st_stab _) (Fr.trans (Fr.ext (Fr.ext (Fr.trans (Fr.ext (Fr.refl (fun k => k = b3 ∨ k = b4) w10) Eb3) Es3 (fun k _ h => (.inl h))) E7) Eb4) Es4 (fun k _ h => (.inr h))) (fun k hk h => by have hk1 := hk.1; have hk2 := hk.2; (try dsimp only at h hk1 hk2); first | exact h.elim | omega | (rcases (show _ ∨ _ from h) with h | h <;> omega))) (hMM2.fr (st_stab _) (Fr.trans (Fr.ext (Fr.refl (fun k => k = b4) w13) Eb4) Es4 (fun k _ h => h)) (fun k hk h => by have hk1 := hk.1; have hk2 := hk.2; (try dsimp only at h hk1 hk2); first | exact h.elim | omega | (rcases (show _ ∨ _ from h) with h | h <;> omega)))) ?_
      rintro _ w16 E8 rfl
      have F16 := F15.ext E8
      have hz8 := E8.size
      refine lx_b_t (decide_eq_true rfl) ?_
      refine lx_value (want rfl) (pick_t rfl rfl) ?_
      refine lx_value (want rfl) (mv_bool rfl) ?_
      refine lx_value (want_if (j := 13) (d := 63) (x := true) (y := true) rfl rfl (by decide) rfl) (mv_int rfl) ?_
      refine lx_value (want_if (j := 13) (d := 63) (x := true) (y := true) rfl rfl (by decide) rfl) (mv_int rfl) ?_
      refine lx_value (want_if (j := 13) (d := 63) (x := true) (y := true) rfl rfl (by decide) rfl) (rn_eql rfl rfl) ?_
      refine lx_dec_t (rfl) ?_
      refine lx_value (want rfl) (pick_t rfl rfl) ?_
      refine lx_value (want rfl) (mv_bool rfl) ?_
      refine lx_value (want_if (j := 18) (d := 68) (x := true) (y := true) rfl rfl (by decide) rfl) (rn_loadBlk ag_45 sz_45 rfl ((((((((((Bs1.ne Es2 (by omega)).ext E4).ext E5).ext E6).ext Eb3).ne Es3 (by omega)).ext E7).ext Eb4).ne Es4 (by omega)).ext E8) rfl rfl) ?_
      refine lx_value (want_if (j := 18) (d := 68) (x := true) (y := true) rfl rfl (by decide) rfl) (rn_loadBlk ag_45 sz_45 rfl (((((((((((((((B1.ext Eb2).ext E1).ext E2).ext E3).ne Es1 (by omega)).ne Es2 (by omega)).ext E4).ext E5).ext E6).ext Eb3).ne Es3 (by omega)).ext E7).ext Eb4).ne Es4 (by omega)).ext E8) rfl rfl) ?_
      refine lx_call (want_if (j := 18) (d := 68) (x := true) (y := true) rfl rfl (by decide) rfl) (ent_func cf_32 (argsC (t_agg rfl) (argsC (t_agg rfl) args0))) (samepic_ct p _ _ _ _ _ p sv cv sk ck G hBp w16 (hPV1.fr (vl_stab _) (Fr.ext (Fr.trans (Fr.ext (Fr.ext (Fr.trans (Fr.ext (Fr.ext (Fr.ext (Fr.ext (Fr.trans (Fr.trans (Fr.refl (fun k => k = b105 ∨ k = b106 ∨ k = b3 ∨ k = b4) w5) Es1 (fun k _ h => (.inl h))) Es2 (fun k _ h => (.inr (.inl h)))) E4) E5) E6) Eb3) Es3 (fun k _ h => (.inr (.inr (.inl h))))) E7) Eb4) Es4 (fun k _ h => (.inr (.inr (.inr h))))) E8) (fun k hk h => by have hk1 := hk.1; have hk2 := hk.2; (try dsimp only at h hk1 hk2); first | exact h.elim | omega | (rcases (show _ ∨ _ from h) with h | h <;> omega))) (hPC1.fr (vv_stab _) (Fr.ext (Fr.trans (Fr.ext (Fr.ext (Fr.trans (Fr.ext (Fr.ext (Fr.ext (Fr.ext (Fr.trans (Fr.trans (Fr.refl (fun k => k = b105 ∨ k = b106 ∨ k = b3 ∨ k = b4) w5) Es1 (fun k _ h => (.inl h))) Es2 (fun k _ h => (.inr (.inl h)))) E4) E5) E6) Eb3) Es3 (fun k _ h => (.inr (.inr (.inl h))))) E7) Eb4) Es4 (fun k _ h => (.inr (.inr (.inr h))))) E8) (fun k hk h => by have hk1 := hk.1; have hk2 := hk.2; (try dsimp only at h hk1 hk2); first | exact h.elim | omega | (rcases (show _ ∨ _ from h) with h | h <;> omega))) (hv.fr (vl_stab _) F16 (fun _ _ h => h)) (hk.fr (vv_stab _) F16 (fun _ _ h => h))) ?_
      rintro _ w17 E9 rfl
      have F17 := F16.ext E9
      have hz9 := E9.size
      refine lx_b_t (decide_eq_true rfl) ?_
      refine lx_value (want rfl) (pick_t rfl rfl) ?_
      refine lx_value (want rfl) (mv_bool rfl) ?_
      refine lx_value (want_if (j := 23) (d := 73) (x := true) (y := true) rfl rfl (by decide) rfl) (rn_loadBlk ag_45 sz_45 rfl ((((((((((Bs2.ext E4).ext E5).ext E6).ext Eb3).ne Es3 (by omega)).ext E7).ext Eb4).ne Es4 (by omega)).ext E8).ext E9) rfl rfl) ?_
      refine lx_value (want_if (j := 23) (d := 73) (x := true) (y := true) rfl rfl (by decide) rfl) (rn_loadBlk ag_45 sz_45 rfl (((((((((((((((B2.ext E1).ext E2).ext E3).ne Es1 (by omega)).ne Es2 (by omega)).ext E4).ext E5).ext E6).ext Eb3).ne Es3 (by omega)).ext E7).ext Eb4).ne Es4 (by omega)).ext E8).ext E9) rfl rfl) ?_
      refine lx_call (want_if (j := 23) (d := 73) (x := true) (y := true) rfl rfl (by decide) rfl) (ent_func cf_32 (argsC (t_agg rfl) (argsC (t_agg rfl) args0))) (samepic_ct q _ _ _ _ _ q sv2 cv2 sk2 ck2 G2 hBq w17 (hPV2.fr (vl_stab _) (Fr.ext (Fr.ext (Fr.trans (Fr.ext (Fr.ext (Fr.trans (Fr.ext (Fr.ext (Fr.ext (Fr.ext (Fr.trans (Fr.trans (Fr.refl (fun k => k = b105 ∨ k = b106 ∨ k = b3 ∨ k = b4) w5) Es1 (fun k _ h => (.inl h))) Es2 (fun k _ h => (.inr (.inl h)))) E4) E5) E6) Eb3) Es3 (fun k _ h => (.inr (.inr (.inl h))))) E7) Eb4) Es4 (fun k _ h => (.inr (.inr (.inr h))))) E8) E9) (fun k hk h => by have hk1 := hk.1; have hk2 := hk.2; (try dsimp only at h hk1 hk2); first | exact h.elim | omega | (rcases (show _ ∨ _ from h) with h | h <;> omega))) (hPC2.fr (vv_stab _) (Fr.ext (Fr.ext (Fr.trans (Fr.ext (Fr.ext (Fr.trans (Fr.ext (Fr.ext (Fr.ext (Fr.ext (Fr.trans (Fr.trans (Fr.refl (fun k => k = b105 ∨ k = b106 ∨ k = b3 ∨ k = b4) w5) Es1 (fun k _ h => (.inl h))) Es2 (fun k _ h => (.inr (.inl h)))) E4) E5) E6) Eb3) Es3 (fun k _ h => (.inr (.inr (.inl h))))) E7) Eb4) Es4 (fun k _ h => (.inr (.inr (.inr h))))) E8) E9) (fun k hk h => by have hk1 := hk.1; have hk2 := hk.2; (try dsimp only at h hk1 hk2); first | exact h.elim | omega | (rcases (show _ ∨ _ from h) with h | h <;> omega))) (hv2.fr (vl_stab _) F17 (fun _ _ h => h)) (hk2.fr (vv_stab _) F17 (fun _ _ h => h))) ?_
      rintro _ w18 E10 rfl
      have F18 := F17.ext E10
      have hz10 := E10.size
      refine lx_b_t (decide_eq_true rfl) ?_
      refine lx_value (want rfl) (pick_t rfl rfl) ?_
      refine lx_value (want rfl) (mv_bool rfl) ?_
      refine lx_call (want_if (j := 28) (d := 78) (x := true) (y := true) rfl rfl (by decide) rfl) (ent_func cf_19 args0) (awake_ct w18) ?_
      rintro _ w19 E11 rfl
      have F19 := F18.ext E11
      have hz11 := E11.size
      refine lx_value (want rfl) (pick_t rfl rfl) ?_
      refine lx_value (want rfl) (as_bool rfl) ?_
      refine lx_nil ?_
      refine wk_ret ?_
      refine retR1 Tryz.results12 (.tmp (t_bool rfl)) F19 ?_
      exact rfl
    ·
      refine lx_value (want_if (j := 3) (d := 18) (x := false) (y := false) rfl rfl (by decide) rfl) (rn_not rfl) ?_
      refine lx_value (want rfl) (pick_f rfl rfl) ?_
      refine lx_nil ?_
      refine wk_cond_t rfl ?_
      refine wk_seq ?_
      refine wk_region ?_
      refine lx_call (want rfl) (ent_func cf_19 args0) (awake_ct w4) ?_
      rintro _ w5 E12 rfl
      have F20 := F4.ext E12
      have hz12 := E12.size
      refine lx_value (want rfl) (as_bool rfl) ?_
      refine lx_nil ?_
      refine wk_ret ?_
      refine retR1 Tryz.results12 (.tmp (t_bool rfl)) F20 ?_
      exact rfl
  ·
    refine lx_value (want rfl) (rn_not rfl) ?_
    refine lx_value (want rfl) (mv_bool rfl) ?_
    refine lx_skip (want_if (j := 3) (d := 18) (x := false) (y := true) rfl rfl (by decide) rfl) ?_
    refine lx_skip (want_if (j := 3) (d := 18) (x := false) (y := true) rfl rfl (by decide) rfl) ?_
    refine lx_skip (want_if (j := 3) (d := 18) (x := false) (y := true) rfl rfl (by decide) rfl) ?_
    refine lx_value (want rfl) (pick_t rfl rfl) ?_
    refine lx_nil ?_
    refine wk_cond_t rfl ?_
    refine wk_seq ?_
    refine wk_region ?_
    refine lx_call (want rfl) (ent_func cf_19 args0) (awake_ct w3) ?_
    rintro _ w4 E13 rfl
    have F21 := F3.ext E13
    have hz13 := E13.size
    refine lx_value (want rfl) (as_bool rfl) ?_
    refine lx_nil ?_
    refine wk_ret ?_
    refine retR1 Tryz.results12 (.tmp (t_bool rfl)) F21 ?_
    exact rfl

end Go.Proofs.YtnhgfmbmfjmonaaGreatDoor

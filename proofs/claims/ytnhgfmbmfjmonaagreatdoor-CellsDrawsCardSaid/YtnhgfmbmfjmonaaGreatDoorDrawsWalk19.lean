/- What functions compute: cellsdraws. -/
import Derived.Test.YtnhgfmbmfjmonaaGreatDoorDrawsFacts
import Derived.Test.YtnhgfmbmfjmonaaGreatDoorDrawsPre
import Derived.Test.YtnhgfmbmfjmonaaGreatDoorDrawsWalk1
import Derived.Test.YtnhgfmbmfjmonaaGreatDoorDrawsWalk14
import Derived.Test.YtnhgfmbmfjmonaaGreatDoorDrawsWalk15
import Derived.Test.YtnhgfmbmfjmonaaGreatDoorDrawsWalk16
import Derived.Test.YtnhgfmbmfjmonaaGreatDoorDrawsWalk18
import Derived.Test.YtnhgfmbmfjmonaaGreatDoorDrawsWalk2
import Derived.Test.YtnhgfmbmfjmonaaGreatDoorDrawsWalk3
import Derived.Test.YtnhgfmbmfjmonaaGreatDoorDrawsWalk4
import Derived.Test.YtnhgfmbmfjmonaaGreatDoorDrawsWalk5
import Derived.Test.YtnhgfmbmfjmonaaGreatDoorDrawsWalk6
set_option maxRecDepth 100000
set_option linter.unusedVariables false
set_option linter.unusedSimpArgs false
namespace Go.Proofs.YtnhgfmbmfjmonaaGreatDoor
open Go Go.RowKit Go.Mix Go.Eng
set_option maxHeartbeats 4000000 in
set_option maxRecDepth 100000 in
theorem cellsdraws_ct (m : Mem) (s : Option Addr) (c : Nat) (K : Nat → Prop) (l : List Vl) (sl : Option Addr) (cl : Nat) (H : Nat → Prop) (p : Pic) (sv : Option Addr) (cv : Nat) (sk : Option Addr) (ck : Nat) (G : Nat → Prop) (w0 : World) (hm : MemS K w0 s m) (hl : VlS H w0 sl l) (hv : VlS G w0 sv p.1) (hk : VvS G w0 sk p.2) :
    CT Tryz.prog 4 [.agg #[.slice s m.length c], .slice sl l.length cl, .agg #[.slice sv p.1.length cv, .slice sk p.2.length ck]] w0 no (fun v _ => v = .bool true) := by
  have F0 := Fr.refl no w0
  refine ct_body Tryz.func4 rfl Tryz.ntmps4 (Nat.le_of_ble_eq_true rfl) ?_
  refine wk_seq ?_
  refine wk_region ?_
  refine lx_new (want rfl) (rn_box (t_agg rfl)) ?_
  intro b1 w1 hb1 Eb1 B1 hlb1
  have F1 := F0.ext Eb1
  have hzb1 := Eb1.size
  refine lx_new (want rfl) (rn_box (t_agg rfl)) ?_
  intro b2 w2 hb2 Eb2 B2 hlb2
  have F2 := F1.ext Eb2
  have hzb2 := Eb2.size
  refine lx_value (want rfl) (as_bool rfl) ?_
  refine lx_nil ?_
  refine wk_seq ?_
  refine wk_seq ?_
  refine wk_region ?_
  refine lx_value (want rfl) (rn_loadBlk ag_24 sz_24 rfl (B1.ext Eb2) rfl rfl) ?_
  refine lx_call (want rfl) (ent_func cf_18 (argsC (t_agg rfl) args0)) (thin_ct m _ _ _ w2 (hm.fr (st_stab _) F2 (fun _ _ h => h))) ?_
  rintro _ w3 E1 rfl
  have F3 := F2.ext E1
  have hz1 := E1.size
  refine lx_split (fun ht => ?_) (fun ht => ?_)
  ·
    have hBt := thin_Bm ht
    refine lx_value (want rfl) (rn_not rfl) ?_
    refine lx_value (want rfl) (mv_bool rfl) ?_
    refine lx_value (want_if (j := 3) (d := 17) (x := false) (y := false) rfl rfl (by decide) rfl) (mv_slice rfl) ?_
    refine lx_value (want_if (j := 3) (d := 17) (x := false) (y := false) rfl rfl (by decide) rfl) (rn_len Tryz.underlying30 rfl) ?_
    refine lx_value (want_if (j := 3) (d := 17) (x := false) (y := false) rfl rfl (by decide) rfl) (rn_gtr rfl rfl) ?_
    refine lx_dec (fun h14 => ?_) (fun h14 => ?_)
    ·
      refine lx_value (want_if (j := 3) (d := 17) (x := false) (y := false) rfl rfl (by decide) rfl) (mv_bool rfl) ?_
      refine lx_value (want_if (j := 7) (d := 21) (x := true) (y := true) rfl rfl (by decide) rfl) (mv_slice rfl) ?_
      refine lx_value (want_if (j := 7) (d := 21) (x := true) (y := true) rfl rfl (by decide) rfl) (rn_len Tryz.underlying30 rfl) ?_
      refine lx_value (want_if (j := 7) (d := 21) (x := true) (y := true) rfl rfl (by decide) rfl) (rn_leq rfl rfl) ?_
      refine lx_dec (fun h100 => ?_) (fun h100 => ?_)
      ·
        refine lx_value (want_if (j := 3) (d := 17) (x := false) (y := false) rfl rfl (by decide) rfl) (pick_t rfl rfl) ?_
        refine lx_value (want rfl) (pick_f rfl rfl) ?_
        refine lx_value (want rfl) (mv_bool rfl) ?_
        refine lx_skip (want_if (j := 13) (d := 27) (x := false) (y := true) rfl rfl (by decide) rfl) ?_
        refine lx_skip (want_if (j := 13) (d := 27) (x := false) (y := true) rfl rfl (by decide) rfl) ?_
        refine lx_skip (want_if (j := 13) (d := 27) (x := false) (y := true) rfl rfl (by decide) rfl) ?_
        refine lx_value (want rfl) (pick_t rfl rfl) ?_
        refine lx_value (want rfl) (mv_bool rfl) ?_
        refine lx_skip (want_if (j := 18) (d := 32) (x := false) (y := true) rfl rfl (by decide) rfl) ?_
        refine lx_skip (want_if (j := 18) (d := 32) (x := false) (y := true) rfl rfl (by decide) rfl) ?_
        refine lx_skip (want_if (j := 18) (d := 32) (x := false) (y := true) rfl rfl (by decide) rfl) ?_
        refine lx_value (want rfl) (pick_t rfl rfl) ?_
        refine lx_nil ?_
        refine wk_cond_t rfl ?_
        refine wk_seq ?_
        refine wk_region ?_
        refine lx_call (want rfl) (ent_func cf_19 args0) (awake_ct w3) ?_
        rintro _ w4 E2 rfl
        have F4 := F3.ext E2
        have hz2 := E2.size
        refine lx_value (want rfl) (as_bool rfl) ?_
        refine lx_nil ?_
        refine wk_ret ?_
        refine retR1 Tryz.results4 (.tmp (t_bool rfl)) F4 ?_
        exact rfl
      ·
        refine lx_value (want_if (j := 3) (d := 17) (x := false) (y := false) rfl rfl (by decide) rfl) (pick_t rfl rfl) ?_
        refine lx_value (want rfl) (pick_f rfl rfl) ?_
        refine lx_value (want rfl) (mv_bool rfl) ?_
        refine lx_value (want_if (j := 13) (d := 27) (x := false) (y := false) rfl rfl (by decide) rfl) (mv_slice rfl) ?_
        refine lx_value (want_if (j := 13) (d := 27) (x := false) (y := false) rfl rfl (by decide) rfl) (rn_len Tryz.underlying30 rfl) ?_
        refine lx_value (want_if (j := 13) (d := 27) (x := false) (y := false) rfl rfl (by decide) rfl) (rn_gtr rfl rfl) ?_
        refine lx_dec (fun h104 => ?_) (fun h104 => ?_)
        ·
          refine lx_value (want rfl) (pick_f rfl rfl) ?_
          refine lx_value (want rfl) (mv_bool rfl) ?_
          refine lx_skip (want_if (j := 18) (d := 32) (x := false) (y := true) rfl rfl (by decide) rfl) ?_
          refine lx_skip (want_if (j := 18) (d := 32) (x := false) (y := true) rfl rfl (by decide) rfl) ?_
          refine lx_skip (want_if (j := 18) (d := 32) (x := false) (y := true) rfl rfl (by decide) rfl) ?_
          refine lx_value (want rfl) (pick_t rfl rfl) ?_
          refine lx_nil ?_
          refine wk_cond_t rfl ?_
          refine wk_seq ?_
          refine wk_region ?_
          refine lx_call (want rfl) (ent_func cf_19 args0) (awake_ct w3) ?_
          rintro _ w4 E3 rfl
          have F5 := F3.ext E3
          have hz3 := E3.size
          refine lx_value (want rfl) (as_bool rfl) ?_
          refine lx_nil ?_
          refine wk_ret ?_
          refine retR1 Tryz.results4 (.tmp (t_bool rfl)) F5 ?_
          exact rfl
        ·
          have hll : l.length ≤ 1048576 := by omega
          have hbd := drawR_Bp hBt hll
          refine lx_value (want rfl) (pick_f rfl rfl) ?_
          refine lx_value (want rfl) (mv_bool rfl) ?_
          refine lx_value (want_if (j := 18) (d := 32) (x := false) (y := false) rfl rfl (by decide) rfl) (rn_loadBlk ag_45 sz_45 rfl (B2.ext E1) rfl rfl) ?_
          refine lx_call (want_if (j := 18) (d := 32) (x := false) (y := false) rfl rfl (by decide) rfl) (ent_func cf_27 (argsC (t_agg rfl) args0)) (thinpic_ct p _ _ _ _ _ w3 (hv.fr (vl_stab _) F3 (fun _ _ h => h)) (hk.fr (vv_stab _) F3 (fun _ _ h => h))) ?_
          rintro _ w4 E4 rfl
          have F6 := F3.ext E4
          have hz4 := E4.size
          refine lx_split (fun htp => ?_) (fun htp => ?_)
          ·
            have hBp := (thinP_Bp htp).1
            refine lx_value (want_if (j := 18) (d := 32) (x := false) (y := false) rfl rfl (by decide) rfl) (rn_not rfl) ?_
            refine lx_value (want rfl) (pick_f rfl rfl) ?_
            refine lx_nil ?_
            refine wk_cond_f rfl ?_
            refine wk_skip ?_
            refine wk_seq ?_
            refine wk_mix 8 (fun kS => match kS with | 1 => .any (fun I v w => ∃ s c, v = .agg #[.slice s m.length c] ∧ MemS (Iv I.1 I.2) w s m) | 3 => .any (fun I v w => ∃ s c, v = .slice s l.length c ∧ VlS (Iv I.1 I.2) w s l) | 5 => .any (fun I v w => PicI I w v p) | 6 => .any (fun I v w => ∃ b, v = .pointer (some ⟨b, 0, none⟩) ∧ w4.heap.size ≤ b ∧ (I.1 ≤ b ∧ b < I.2) ∧ Blk w b [.slice none 0 0] 24) | 7 => .any (fun I v w => ∃ b, v = .pointer (some ⟨b, 0, none⟩) ∧ w4.heap.size ≤ b ∧ (I.1 ≤ b ∧ b < I.2) ∧ Blk w b [.slice none 0 0, .slice none 0 0] 45) | _ => .none) (by kernel_rfl) (by kernel_rfl) (by intro kS G hk; (try dsimp only at hk); (split at hk) <;> first | (cases hk; done) | (injection hk with hk; subst hk; exact ⟨by intro j hkj I v w w' hR hG; first | exact hG | (obtain ⟨s, c, h1, h2⟩ := hG; exact ⟨s, c, h1, h2.fr (st_stab _) hR (fun _ _ h => h)⟩) | (obtain ⟨s, c, h1, h2⟩ := hG; exact ⟨s, c, h1, h2.fr (vl_stab _) hR (fun _ _ h => h)⟩) | (exact hG.fr hR (fun _ _ h => h)) | (obtain ⟨b, h1, h2, hI, h3⟩ := hG; exact ⟨b, h1, h2, hI, h3.ext hR⟩) | (obtain ⟨b, h1, h2, hI, h3⟩ := hG; exact ⟨b, h1, h2, hI, h3.ext hR⟩), fun ⟨_, _, _, _, hs⟩ => by (try dsimp only at hs); split at hs <;> cases hs⟩)) (by intro kS s y G hk; (try dsimp only at hk); split at hk <;> cases hk) ?_
            simp only [List.take_succ_cons, List.take_zero, List.take_nil, List.drop_succ_cons, List.drop_zero, List.drop_nil]
            refine mx_calm rfl (want rfl) (fun u1 eu1 fu1 => rn_loadBlk ag_24 sz_24 rfl ((((B1.ext Eb2).ext E1).ext E4).ext ((ext_drawn _).trans' eu1)) rfl rfl) ?_
            refine mx_any rfl rfl (want rfl) (fun u2 eu2 fu2 => do_call (ent_func cf_20 (argsC (t_agg rfl) args0)) (copy_ct m _ _ _ hBt u2 (hm.fr (st_stab _) (F6.ext ((ext_drawn _).trans' eu2)) (fun _ _ h => h))) (fun v w' E h => ⟨E, h.read⟩)) (fun I39 v39 => ?_)
            refine mx_calm rfl (want rfl) (fun u3 eu3 fu3 => mv_slice rfl) ?_
            refine mx_any rfl rfl (want rfl) (fun u4 eu4 fu4 => do_call (ent_func cf_28 (argsC (t_slice rfl) args0)) (values_ct l sl cl H u4 (hl.fr (vl_stab _) (F6.ext ((ext_drawn _).trans' eu4)) (fun _ _ h => h)) hll) (fun v w' E h => ⟨E, (by obtain ⟨s, c, h1, h2, h3⟩ := h; exact ⟨s, c, h1, own_vl h2 h3⟩)⟩)) (fun I41 v41 => ?_)
            refine mx_calm rfl (want rfl) (fun u5 eu5 fu5 => rn_loadBlk ag_45 sz_45 rfl (((B2.ext E1).ext E4).ext ((ext_drawn _).trans' eu5)) rfl rfl) ?_
            refine mx_any rfl rfl (want rfl) (fun u6 eu6 fu6 => do_call (ent_func cf_29 (argsC (t_agg rfl) args0)) (copypic_ct p sv cv sk ck G hBp u6 (hv.fr (vl_stab _) (F6.ext ((ext_drawn _).trans' eu6)) (fun _ _ h => h)) (hk.fr (vv_stab _) (F6.ext ((ext_drawn _).trans' eu6)) (fun _ _ h => h))) (fun v w' E h => ⟨E, h⟩)) (fun I43 v43 => ?_)
            refine mx_any rfl rfl (want rfl) (fun u7 eu7 fu7 => (do_new2 (rn_alloc ze_24) (show _ ≤ _ from (((ext_drawn _).trans' eu7)).size)).mono (fun v w' h => ⟨h.1, h.2⟩)) (fun I7 v7 => ?_)
            refine mx_any rfl rfl (want rfl) (fun u8 eu8 fu8 => (do_new2 (rn_alloc ze_45) (show _ ≤ _ from (((ext_drawn _).trans' eu8)).size)).mono (fun v w' h => ⟨h.1, h.2⟩)) (fun I9 v9 => ?_)
            refine mx_nil (fun w5 E5' H1 HS => ?_)
            have E5 := (ext_drawn _).trans' E5'
            have F7 := F6.ext E5
            have hz5 := E5.size
            have hI9 := (HS.1 9 _ rfl).2
            have hI7 := (HS.1 7 _ rfl).2
            have hI43 := (HS.1 43 _ rfl).2
            have hI41 := (HS.1 41 _ rfl).2
            have hI39 := (HS.1 39 _ rfl).2
            have hX9_7 := HS.2 9 _ 7 _ rfl rfl (show (9 : Nat) ≠ 7 from by decide)
            have hX9_43 := HS.2 9 _ 43 _ rfl rfl (show (9 : Nat) ≠ 43 from by decide)
            have hX9_41 := HS.2 9 _ 41 _ rfl rfl (show (9 : Nat) ≠ 41 from by decide)
            have hX9_39 := HS.2 9 _ 39 _ rfl rfl (show (9 : Nat) ≠ 39 from by decide)
            have hX7_43 := HS.2 7 _ 43 _ rfl rfl (show (7 : Nat) ≠ 43 from by decide)
            have hX7_41 := HS.2 7 _ 41 _ rfl rfl (show (7 : Nat) ≠ 41 from by decide)
            have hX7_39 := HS.2 7 _ 39 _ rfl rfl (show (7 : Nat) ≠ 39 from by decide)
            have hX43_41 := HS.2 43 _ 41 _ rfl rfl (show (43 : Nat) ≠ 41 from by decide)
            have hX43_39 := HS.2 43 _ 39 _ rfl rfl (show (43 : Nat) ≠ 39 from by decide)
            have hX41_39 := HS.2 41 _ 39 _ rfl rfl (show (41 : Nat) ≠ 39 from by decide)
            simp only at hI9
            simp only at hI7
            simp only at hI43
            simp only at hI41
            simp only at hI39
            simp only at hX9_7
            simp only at hX9_43
            simp only at hX9_41
            simp only at hX9_39
            simp only at hX7_43
            simp only at hX7_41
            simp only at hX7_39
            simp only at hX43_41
            simp only at hX43_39
            simp only at hX41_39
            have g9 := H1 9 _ rfl
            (try dsimp only at g9); obtain ⟨b109, hv9, hbb109, hib109, Bb109⟩ := g9; subst hv9; have hlbb109 := Bb109.lt
            have g7 := H1 7 _ rfl
            (try dsimp only at g7); obtain ⟨b107, hv7, hbb107, hib107, Bb107⟩ := g7; subst hv7; have hlbb107 := Bb107.lt
            have g43 := H1 43 _ rfl
            obtain ⟨sA1, cA1, sB1, cB1, rfl, hPV1, hPC1⟩ := g43
            have g41 := H1 41 _ rfl
            obtain ⟨sV1, cV1, rfl, hVC1⟩ := g41
            have g39 := H1 39 _ rfl
            obtain ⟨sC1, cC1, rfl, hMC1⟩ := g39
            refine lx_set (want rfl) sz_24 rfl (t_agg rfl) rfl rfl rfl Bb107 (Nat.le_of_ble_eq_true rfl) ?_
            intro w6 Es1 Bs1
            have F8 := F7.set Es1 (by omega)
            have hzs1 := Es1.size
            refine lx_value (want rfl) (as_slice rfl) ?_
            refine lx_set (want rfl) sz_45 rfl (t_agg rfl) rfl rfl rfl (Bb109.ne Es1 (by omega)) (Nat.le_of_ble_eq_true rfl) ?_
            intro w7 Es2 Bs2
            have F9 := F8.set Es2 (by omega)
            have hzs2 := Es2.size
            refine lx_nil ?_
            refine wk_seq ?_
            refine wk_region ?_
            refine lx_value (want rfl) (rn_loadBlk ag_24 sz_24 rfl (Bs1.ne Es2 (by omega)) rfl rfl) ?_
            refine lx_value (want rfl) (mv_slice rfl) ?_
            refine lx_call (want rfl) (ent_func cf_30 (argsC (t_agg rfl) (argsC (t_slice rfl) args0))) (pDraw_ct m sC1 cC1 _ hBt l sV1 cV1 _ hll w7 (hMC1.fr (st_stab _) (Fr.trans (Fr.trans (Fr.refl (fun k => k = b107 ∨ k = b109) w5) Es1 (fun k _ h => (.inl h))) Es2 (fun k _ h => (.inr h))) (fun k hk h => by have hk1 := hk.1; have hk2 := hk.2; (try dsimp only at h hk1 hk2); first | exact h.elim | omega | (rcases (show _ ∨ _ from h) with h | h <;> omega))) (hVC1.fr (vl_stab _) (Fr.trans (Fr.trans (Fr.refl (fun k => k = b107 ∨ k = b109) w5) Es1 (fun k _ h => (.inl h))) Es2 (fun k _ h => (.inr h))) (fun k hk h => by have hk1 := hk.1; have hk2 := hk.2; (try dsimp only at h hk1 hk2); first | exact h.elim | omega | (rcases (show _ ∨ _ from h) with h | h <;> omega)))) ?_
            rintro _ w8 E6 ⟨pv, rfl, sP, cP, sQ, cQ, rfl, hPV, hPC⟩
            have F10 := F9.ext E6
            have hz6 := E6.size
            refine lx_value (want rfl) (mv_tuple rfl) ?_
            refine lx_value (want rfl) (rn_extract rfl rfl) ?_
            refine lx_value (want rfl) (rn_extract rfl rfl) ?_
            refine lx_new (want rfl) (rn_alloc ze_45) ?_
            intro b3 w9 hb3 Eb3 B3 hlb3
            have F11 := F10.ext Eb3
            have hzb3 := Eb3.size
            refine lx_set (want rfl) sz_45 rfl (t_agg rfl) rfl rfl rfl B3 (Nat.le_of_ble_eq_true rfl) ?_
            intro w10 Es3 Bs3
            have F12 := F11.set Es3 (by omega)
            have hzs3 := Es3.size
            refine lx_value (want rfl) (as_int rfl) ?_
            refine lx_nil ?_
            refine wk_seq ?_
            refine wk_region ?_
            refine lx_value (want rfl) (rn_loadBlk ag_24 sz_24 rfl (((((((((B1.ext Eb2).ext E1).ext E4).ext E5).ne Es1 (by omega)).ne Es2 (by omega)).ext E6).ext Eb3).ne Es3 (by omega)) rfl rfl) ?_
            refine lx_call (want rfl) (ent_func cf_20 (argsC (t_agg rfl) args0)) (((copy_ct m _ _ _ hBt w10 (hm.fr (st_stab _) F12 (fun _ _ h => h))).mono (fun _ _ h => h) (fun _ _ _ h => h.read))) ?_
            rintro _ w11 E7 ⟨sC2, cC2, rfl, hMC2⟩
            have F13 := F12.ext E7
            have hz7 := E7.size
            refine lx_value (want rfl) (mv_slice rfl) ?_
            refine lx_call (want rfl) (ent_func cf_31 (argsC (t_agg rfl) (argsC (t_slice rfl) args0))) (refdraw_ct m sC2 cC2 _ hBt l sl cl H hll w11 (hMC2.fr (st_stab _) (Fr.refl no w11) (fun k hk h => by have hk := hk.2; first | exact (show False from h) | ((try dsimp only at h); omega) | (rcases (show _ ∨ _ from h) with h | h <;> omega))) (hl.fr (vl_stab _) F13 (fun _ _ h => h))) ?_
            rintro _ w12 E8 ⟨pv2, rfl, sP2, cP2, sQ2, cQ2, rfl, hPV2, hPC2⟩
            have F14 := F13.ext E8
            have hz8 := E8.size
            refine lx_value (want rfl) (mv_tuple rfl) ?_
            refine lx_value (want rfl) (rn_extract rfl rfl) ?_
            refine lx_value (want rfl) (rn_extract rfl rfl) ?_
            refine lx_new (want rfl) (rn_alloc ze_45) ?_
            intro b4 w13 hb4 Eb4 B4 hlb4
            have F15 := F14.ext Eb4
            have hzb4 := Eb4.size
            refine lx_set (want rfl) sz_45 rfl (t_agg rfl) rfl rfl rfl B4 (Nat.le_of_ble_eq_true rfl) ?_
            intro w14 Es4 Bs4
            have F16 := F15.set Es4 (by omega)
            have hzs4 := Es4.size
            refine lx_value (want rfl) (as_int rfl) ?_
            refine lx_nil ?_
            refine wk_seq ?_
            have a1 := (hPV.fr (vl_stab _) (Fr.trans (Fr.ext (Fr.ext (Fr.ext (Fr.trans (Fr.ext (Fr.refl (fun k => k = b3 ∨ k = b4) w8) Eb3) Es3 (fun k _ h => (.inl h))) E7) E8) Eb4) Es4 (fun k _ h => (.inr h))) (fun k hk h => by have hk1 := hk.1; have hk2 := hk.2; (try dsimp only at h hk1 hk2); first | exact h.elim | omega | (rcases (show _ ∨ _ from h) with h | h <;> omega)))
            have a2 := (hPC.fr (vv_stab _) (Fr.trans (Fr.ext (Fr.ext (Fr.ext (Fr.trans (Fr.ext (Fr.refl (fun k => k = b3 ∨ k = b4) w8) Eb3) Es3 (fun k _ h => (.inl h))) E7) E8) Eb4) Es4 (fun k _ h => (.inr h))) (fun k hk h => by have hk1 := hk.1; have hk2 := hk.2; (try dsimp only at h hk1 hk2); first | exact h.elim | omega | (rcases (show _ ∨ _ from h) with h | h <;> omega)))
            have a3 := (hPV2.fr (vl_stab _) (Fr.trans (Fr.ext (Fr.refl (fun k => k = b4) w12) Eb4) Es4 (fun k _ h => h)) (fun k hk h => by have hk1 := hk.1; have hk2 := hk.2; (try dsimp only at h hk1 hk2); first | exact h.elim | omega | (rcases (show _ ∨ _ from h) with h | h <;> omega)))
            have a4 := (hPC2.fr (vv_stab _) (Fr.trans (Fr.ext (Fr.refl (fun k => k = b4) w12) Eb4) Es4 (fun k _ h => h)) (fun k hk h => by have hk1 := hk.1; have hk2 := hk.2; (try dsimp only at h hk1 hk2); first | exact h.elim | omega | (rcases (show _ ∨ _ from h) with h | h <;> omega)))
            have a5 := (hPV1.fr (vl_stab _) (Fr.trans (Fr.ext (Fr.ext (Fr.ext (Fr.trans (Fr.ext (Fr.ext (Fr.trans (Fr.trans (Fr.refl (fun k => k = b107 ∨ k = b109 ∨ k = b3 ∨ k = b4) w5) Es1 (fun k _ h => (.inl h))) Es2 (fun k _ h => (.inr (.inl h)))) E6) Eb3) Es3 (fun k _ h => (.inr (.inr (.inl h))))) E7) E8) Eb4) Es4 (fun k _ h => (.inr (.inr (.inr h))))) (fun k hk h => by have hk1 := hk.1; have hk2 := hk.2; (try dsimp only at h hk1 hk2); first | exact h.elim | omega | (rcases (show _ ∨ _ from h) with h | h <;> omega)))
            have a6 := (hPC1.fr (vv_stab _) (Fr.trans (Fr.ext (Fr.ext (Fr.ext (Fr.trans (Fr.ext (Fr.ext (Fr.trans (Fr.trans (Fr.refl (fun k => k = b107 ∨ k = b109 ∨ k = b3 ∨ k = b4) w5) Es1 (fun k _ h => (.inl h))) Es2 (fun k _ h => (.inr (.inl h)))) E6) Eb3) Es3 (fun k _ h => (.inr (.inr (.inl h))))) E7) E8) Eb4) Es4 (fun k _ h => (.inr (.inr (.inr h))))) (fun k hk h => by have hk1 := hk.1; have hk2 := hk.2; (try dsimp only at h hk1 hk2); first | exact h.elim | omega | (rcases (show _ ∨ _ from h) with h | h <;> omega)))
            have a7 := (hMC1.fr (st_stab _) (Fr.trans (Fr.ext (Fr.ext (Fr.ext (Fr.trans (Fr.ext (Fr.ext (Fr.trans (Fr.trans (Fr.refl (fun k => k = b107 ∨ k = b109 ∨ k = b3 ∨ k = b4) w5) Es1 (fun k _ h => (.inl h))) Es2 (fun k _ h => (.inr (.inl h)))) E6) Eb3) Es3 (fun k _ h => (.inr (.inr (.inl h))))) E7) E8) Eb4) Es4 (fun k _ h => (.inr (.inr (.inr h))))) (fun k hk h => by have hk1 := hk.1; have hk2 := hk.2; (try dsimp only at h hk1 hk2); first | exact h.elim | omega | (rcases (show _ ∨ _ from h) with h | h <;> omega)))
            have a8 := (hVC1.fr (vl_stab _) (Fr.trans (Fr.ext (Fr.ext (Fr.ext (Fr.trans (Fr.ext (Fr.ext (Fr.trans (Fr.trans (Fr.refl (fun k => k = b107 ∨ k = b109 ∨ k = b3 ∨ k = b4) w5) Es1 (fun k _ h => (.inl h))) Es2 (fun k _ h => (.inr (.inl h)))) E6) Eb3) Es3 (fun k _ h => (.inr (.inr (.inl h))))) E7) E8) Eb4) Es4 (fun k _ h => (.inr (.inr (.inr h))))) (fun k hk h => by have hk1 := hk.1; have hk2 := hk.2; (try dsimp only at h hk1 hk2); first | exact h.elim | omega | (rcases (show _ ∨ _ from h) with h | h <;> omega)))
            refine wk_mix 33 (fun kS => match kS with | 2 => .val (.bool true) | 10 => .val (.bool (isPicB p)) | 12 => .val (.bool (isPicB p)) | 18 => .val (.bool true) | 23 => .val (.bool true) | 28 => .val (.bool true) | 31 => .val (.bool true) | _ => .none) (by kernel_rfl) (by kernel_rfl) (by intro kS G hk; (try dsimp only at hk); (split at hk) <;> first | (cases hk; done) | (injection hk with hk; subst hk; exact ⟨by intro j hkj I v w w' hR hG; first | exact hG, fun ⟨_, _, _, _, hs⟩ => by (try dsimp only at hs); split at hs <;> cases hs⟩)) (by intro kS s y G hk; (try dsimp only at hk); split at hk <;> cases hk) ?_
            simp only [List.take_succ_cons, List.take_zero, List.take_nil, List.drop_succ_cons, List.drop_zero, List.drop_nil]
            refine mx_calm rfl (want rfl) (fun u9 eu9 fu9 => rn_loadBlk ag_45 sz_45 rfl (((((Bs3.ext E7).ext E8).ext Eb4).ne Es4 (by omega)).ext ((ext_drawn _).trans' eu9)) rfl rfl) ?_
            refine mx_calm rfl (want rfl) (fun u10 eu10 fu10 => rn_loadBlk ag_45 sz_45 rfl (Bs4.ext ((ext_drawn _).trans' eu10)) rfl rfl) ?_
            refine mx_val rfl (want rfl) (fun u11 eu11 fu11 => do_call (ent_func cf_32 (argsC (t_agg rfl) (argsC (t_agg rfl) args0))) (samepic_ct (drawR m l).2 _ _ _ _ _ (drawR m l).2 _ _ _ _ _ hbd u11 (a1.fr (vl_stab _) ((ext_drawn _).trans' eu11) (fun _ _ h => h)) (a2.fr (vv_stab _) ((ext_drawn _).trans' eu11) (fun _ _ h => h)) (a3.fr (vl_stab _) ((ext_drawn _).trans' eu11) (fun _ _ h => h)) (a4.fr (vv_stab _) ((ext_drawn _).trans' eu11) (fun _ _ h => h))) (fun _ _ E h => ⟨E, (h.trans (congrArg Value.bool (decide_eq_true rfl)))⟩)) ?_
            refine mx_b_t (rfl) ?_
            refine mx_calm rfl (want rfl) (fun u12 eu12 fu12 => mv_bool rfl) ?_
            refine mx_calm rfl (want_if (j := 3) (d := 60) (x := true) (y := true) rfl rfl (by decide) rfl) (fun u13 eu13 fu13 => mv_int rfl) ?_
            refine mx_calm rfl (want_if (j := 3) (d := 60) (x := true) (y := true) rfl rfl (by decide) rfl) (fun u14 eu14 fu14 => mv_int rfl) ?_
            refine mx_calm rfl (want_if (j := 3) (d := 60) (x := true) (y := true) rfl rfl (by decide) rfl) (fun u15 eu15 fu15 => rn_eql rfl rfl) ?_
            refine mx_dec_t (rfl) ?_
            refine mx_calm rfl (want rfl) (fun u16 eu16 fu16 => pick_t rfl rfl) ?_
            refine mx_calm rfl (want rfl) (fun u17 eu17 fu17 => mv_bool rfl) ?_
            refine mx_calm rfl (want_if (j := 8) (d := 65) (x := true) (y := true) rfl rfl (by decide) rfl) (fun u18 eu18 fu18 => rn_loadBlk ag_45 sz_45 rfl ((((((((Bs2.ext E6).ext Eb3).ne Es3 (by omega)).ext E7).ext E8).ext Eb4).ne Es4 (by omega)).ext ((ext_drawn _).trans' eu18)) rfl rfl) ?_
            refine mx_val rfl (want_if (j := 8) (d := 65) (x := true) (y := true) rfl rfl (by decide) rfl) (fun u19 eu19 fu19 => do_call (ent_func cf_33 (argsC (t_agg rfl) args0)) (pispic_ct p _ _ _ _ _ hBp u19 (a5.fr (vl_stab _) ((ext_drawn _).trans' eu19) (fun _ _ h => h)) (a6.fr (vv_stab _) ((ext_drawn _).trans' eu19) (fun _ _ h => h))) (fun _ _ E h => ⟨E, h⟩)) ?_
            refine mx_calm rfl (want_if (j := 8) (d := 65) (x := true) (y := true) rfl rfl (by decide) rfl) (fun u20 eu20 fu20 => rn_loadBlk ag_45 sz_45 rfl (((((((((((((B2.ext E1).ext E4).ext E5).ne Es1 (by omega)).ne Es2 (by omega)).ext E6).ext Eb3).ne Es3 (by omega)).ext E7).ext E8).ext Eb4).ne Es4 (by omega)).ext ((ext_drawn _).trans' eu20)) rfl rfl) ?_
            refine mx_val rfl (want_if (j := 8) (d := 65) (x := true) (y := true) rfl rfl (by decide) rfl) (fun u21 eu21 fu21 => do_call (ent_func cf_34 (argsC (t_agg rfl) args0)) (refispic_ct p sv cv sk ck G hBp u21 (hv.fr (vl_stab _) (F16.ext ((ext_drawn _).trans' eu21)) (fun _ _ h => h)) (hk.fr (vv_stab _) (F16.ext ((ext_drawn _).trans' eu21)) (fun _ _ h => h))) (fun _ _ E h => ⟨E, h⟩)) ?_
            refine mx_calm rfl (want_if (j := 8) (d := 65) (x := true) (y := true) rfl rfl (by decide) rfl) (fun u22 eu22 fu22 => rn_eqlB Tryz.underlying4 rfl rfl) ?_
            refine mx_dec_t (rfl) ?_
            refine mx_calm rfl (want rfl) (fun u23 eu23 fu23 => pick_t rfl rfl) ?_
            refine mx_calm rfl (want rfl) (fun u24 eu24 fu24 => mv_bool rfl) ?_
            refine mx_calm rfl (want_if (j := 15) (d := 72) (x := true) (y := true) rfl rfl (by decide) rfl) (fun u25 eu25 fu25 => rn_loadBlk ag_24 sz_24 rfl (((((((((Bs1.ne Es2 (by omega)).ext E6).ext Eb3).ne Es3 (by omega)).ext E7).ext E8).ext Eb4).ne Es4 (by omega)).ext ((ext_drawn _).trans' eu25)) rfl rfl) ?_
            refine mx_calm rfl (want_if (j := 15) (d := 72) (x := true) (y := true) rfl rfl (by decide) rfl) (fun u26 eu26 fu26 => rn_loadBlk ag_24 sz_24 rfl ((((((((((((((B1.ext Eb2).ext E1).ext E4).ext E5).ne Es1 (by omega)).ne Es2 (by omega)).ext E6).ext Eb3).ne Es3 (by omega)).ext E7).ext E8).ext Eb4).ne Es4 (by omega)).ext ((ext_drawn _).trans' eu26)) rfl rfl) ?_
            refine mx_val rfl (want_if (j := 15) (d := 72) (x := true) (y := true) rfl rfl (by decide) rfl) (fun u27 eu27 fu27 => do_call (ent_func cf_24 (argsC (t_agg rfl) (argsC (t_agg rfl) args0))) (samemem_ct m _ _ _ m s c K hBt u27 (a7.fr (st_stab _) ((ext_drawn _).trans' eu27) (fun _ _ h => h)) (hm.fr (st_stab _) (F16.ext ((ext_drawn _).trans' eu27)) (fun _ _ h => h))) (fun _ _ E h => ⟨E, (h.trans (congrArg Value.bool (decide_eq_true rfl)))⟩)) ?_
            refine mx_b_t (rfl) ?_
            refine mx_calm rfl (want rfl) (fun u28 eu28 fu28 => pick_t rfl rfl) ?_
            refine mx_calm rfl (want rfl) (fun u29 eu29 fu29 => mv_bool rfl) ?_
            refine mx_calm rfl (want_if (j := 20) (d := 77) (x := true) (y := true) rfl rfl (by decide) rfl) (fun u30 eu30 fu30 => mv_slice rfl) ?_
            refine mx_calm rfl (want_if (j := 20) (d := 77) (x := true) (y := true) rfl rfl (by decide) rfl) (fun u31 eu31 fu31 => mv_slice rfl) ?_
            refine mx_val rfl (want_if (j := 20) (d := 77) (x := true) (y := true) rfl rfl (by decide) rfl) (fun u32 eu32 fu32 => do_call (ent_func cf_25 (argsC (t_slice rfl) (argsC (t_slice rfl) args0))) (samevalues_ct l l _ _ _ _ _ _ u32 (a8.fr (vl_stab _) ((ext_drawn _).trans' eu32) (fun _ _ h => h)) (hl.fr (vl_stab _) (F16.ext ((ext_drawn _).trans' eu32)) (fun _ _ h => h)) hll) (fun _ _ E h => ⟨E, (h.trans (congrArg Value.bool (decide_eq_true rfl)))⟩)) ?_
            refine mx_b_t (rfl) ?_
            refine mx_calm rfl (want rfl) (fun u33 eu33 fu33 => pick_t rfl rfl) ?_
            refine mx_calm rfl (want rfl) (fun u34 eu34 fu34 => mv_bool rfl) ?_
            refine mx_calm rfl (want_if (j := 25) (d := 82) (x := true) (y := true) rfl rfl (by decide) rfl) (fun u35 eu35 fu35 => rn_loadBlk ag_45 sz_45 rfl ((((((((Bs2.ext E6).ext Eb3).ne Es3 (by omega)).ext E7).ext E8).ext Eb4).ne Es4 (by omega)).ext ((ext_drawn _).trans' eu35)) rfl rfl) ?_
            refine mx_calm rfl (want_if (j := 25) (d := 82) (x := true) (y := true) rfl rfl (by decide) rfl) (fun u36 eu36 fu36 => rn_loadBlk ag_45 sz_45 rfl (((((((((((((B2.ext E1).ext E4).ext E5).ne Es1 (by omega)).ne Es2 (by omega)).ext E6).ext Eb3).ne Es3 (by omega)).ext E7).ext E8).ext Eb4).ne Es4 (by omega)).ext ((ext_drawn _).trans' eu36)) rfl rfl) ?_
            refine mx_val rfl (want_if (j := 25) (d := 82) (x := true) (y := true) rfl rfl (by decide) rfl) (fun u37 eu37 fu37 => do_call (ent_func cf_32 (argsC (t_agg rfl) (argsC (t_agg rfl) args0))) (samepic_ct p _ _ _ _ _ p sv cv sk ck G hBp u37 (a5.fr (vl_stab _) ((ext_drawn _).trans' eu37) (fun _ _ h => h)) (a6.fr (vv_stab _) ((ext_drawn _).trans' eu37) (fun _ _ h => h)) (hv.fr (vl_stab _) (F16.ext ((ext_drawn _).trans' eu37)) (fun _ _ h => h)) (hk.fr (vv_stab _) (F16.ext ((ext_drawn _).trans' eu37)) (fun _ _ h => h))) (fun _ _ E h => ⟨E, (h.trans (congrArg Value.bool (decide_eq_true rfl)))⟩)) ?_
            refine mx_b_t (rfl) ?_
            refine mx_calm rfl (want rfl) (fun u38 eu38 fu38 => pick_t rfl rfl) ?_
            refine mx_calm rfl (want rfl) (fun u39 eu39 fu39 => mv_bool rfl) ?_
            refine mx_val rfl (want_if (j := 30) (d := 87) (x := true) (y := true) rfl rfl (by decide) rfl) (fun u40 eu40 fu40 => do_call (ent_func cf_19 args0) (awake_ct u40) (fun _ _ E h => ⟨E, h⟩)) ?_
            refine mx_calm rfl (want rfl) (fun u41 eu41 fu41 => pick_t rfl rfl) ?_
            refine mx_nil (fun w15 E9' H2 HS => ?_)
            have E9 := (ext_drawn _).trans' E9'
            have F17 := F16.ext E9
            have hz9 := E9.size
            refine lx_value (want rfl) (as_bool rfl) ?_
            refine lx_nil ?_
            refine wk_ret ?_
            refine retR1 Tryz.results4 (.tmp (t_bool rfl)) F17 ?_
            exact rfl
          ·
            refine lx_value (want_if (j := 18) (d := 32) (x := false) (y := false) rfl rfl (by decide) rfl) (rn_not rfl) ?_
            refine lx_value (want rfl) (pick_f rfl rfl) ?_
            refine lx_nil ?_
            refine wk_cond_t rfl ?_
            refine wk_seq ?_
            refine wk_region ?_
            refine lx_call (want rfl) (ent_func cf_19 args0) (awake_ct w4) ?_
            rintro _ w5 E10 rfl
            have F18 := F6.ext E10
            have hz10 := E10.size
            refine lx_value (want rfl) (as_bool rfl) ?_
            refine lx_nil ?_
            refine wk_ret ?_
            refine retR1 Tryz.results4 (.tmp (t_bool rfl)) F18 ?_
            exact rfl
    ·
      refine lx_value (want_if (j := 3) (d := 17) (x := false) (y := false) rfl rfl (by decide) rfl) (mv_bool rfl) ?_
      refine lx_skip (want_if (j := 7) (d := 21) (x := true) (y := false) rfl rfl (by decide) rfl) ?_
      refine lx_skip (want_if (j := 7) (d := 21) (x := true) (y := false) rfl rfl (by decide) rfl) ?_
      refine lx_skip (want_if (j := 7) (d := 21) (x := true) (y := false) rfl rfl (by decide) rfl) ?_
      refine lx_value (want_if (j := 3) (d := 17) (x := false) (y := false) rfl rfl (by decide) rfl) (pick_f rfl rfl) ?_
      refine lx_value (want rfl) (pick_f rfl rfl) ?_
      refine lx_value (want rfl) (mv_bool rfl) ?_
      refine lx_value (want_if (j := 13) (d := 27) (x := false) (y := false) rfl rfl (by decide) rfl) (mv_slice rfl) ?_
      refine lx_value (want_if (j := 13) (d := 27) (x := false) (y := false) rfl rfl (by decide) rfl) (rn_len Tryz.underlying30 rfl) ?_
      refine lx_value (want_if (j := 13) (d := 27) (x := false) (y := false) rfl rfl (by decide) rfl) (rn_gtr rfl rfl) ?_
      refine lx_dec (fun h104 => ?_) (fun h104 => ?_)
      ·
        refine lx_value (want rfl) (pick_f rfl rfl) ?_
        refine lx_value (want rfl) (mv_bool rfl) ?_
        refine lx_skip (want_if (j := 18) (d := 32) (x := false) (y := true) rfl rfl (by decide) rfl) ?_
        refine lx_skip (want_if (j := 18) (d := 32) (x := false) (y := true) rfl rfl (by decide) rfl) ?_
        refine lx_skip (want_if (j := 18) (d := 32) (x := false) (y := true) rfl rfl (by decide) rfl) ?_
        refine lx_value (want rfl) (pick_t rfl rfl) ?_
        refine lx_nil ?_
        refine wk_cond_t rfl ?_
        refine wk_seq ?_
        refine wk_region ?_
        refine lx_call (want rfl) (ent_func cf_19 args0) (awake_ct w3) ?_
        rintro _ w4 E11 rfl
        have F19 := F3.ext E11
        have hz11 := E11.size
        refine lx_value (want rfl) (as_bool rfl) ?_
        refine lx_nil ?_
        refine wk_ret ?_
        refine retR1 Tryz.results4 (.tmp (t_bool rfl)) F19 ?_
        exact rfl
      ·
        have hll : l.length ≤ 1048576 := by omega
        have hbd := drawR_Bp hBt hll
        refine lx_value (want rfl) (pick_f rfl rfl) ?_
        refine lx_value (want rfl) (mv_bool rfl) ?_
        refine lx_value (want_if (j := 18) (d := 32) (x := false) (y := false) rfl rfl (by decide) rfl) (rn_loadBlk ag_45 sz_45 rfl (B2.ext E1) rfl rfl) ?_
        refine lx_call (want_if (j := 18) (d := 32) (x := false) (y := false) rfl rfl (by decide) rfl) (ent_func cf_27 (argsC (t_agg rfl) args0)) (thinpic_ct p _ _ _ _ _ w3 (hv.fr (vl_stab _) F3 (fun _ _ h => h)) (hk.fr (vv_stab _) F3 (fun _ _ h => h))) ?_
        rintro _ w4 E12 rfl
        have F20 := F3.ext E12
        have hz12 := E12.size
        refine lx_split (fun htp => ?_) (fun htp => ?_)
        ·
          have hBp := (thinP_Bp htp).1
          refine lx_value (want_if (j := 18) (d := 32) (x := false) (y := false) rfl rfl (by decide) rfl) (rn_not rfl) ?_
          refine lx_value (want rfl) (pick_f rfl rfl) ?_
          refine lx_nil ?_
          refine wk_cond_f rfl ?_
          refine wk_skip ?_
          refine wk_seq ?_
          refine wk_mix 8 (fun kS => match kS with | 1 => .any (fun I v w => ∃ s c, v = .agg #[.slice s m.length c] ∧ MemS (Iv I.1 I.2) w s m) | 3 => .any (fun I v w => ∃ s c, v = .slice s l.length c ∧ VlS (Iv I.1 I.2) w s l) | 5 => .any (fun I v w => PicI I w v p) | 6 => .any (fun I v w => ∃ b, v = .pointer (some ⟨b, 0, none⟩) ∧ w4.heap.size ≤ b ∧ (I.1 ≤ b ∧ b < I.2) ∧ Blk w b [.slice none 0 0] 24) | 7 => .any (fun I v w => ∃ b, v = .pointer (some ⟨b, 0, none⟩) ∧ w4.heap.size ≤ b ∧ (I.1 ≤ b ∧ b < I.2) ∧ Blk w b [.slice none 0 0, .slice none 0 0] 45) | _ => .none) (by kernel_rfl) (by kernel_rfl) (by intro kS G hk; (try dsimp only at hk); (split at hk) <;> first | (cases hk; done) | (injection hk with hk; subst hk; exact ⟨by intro j hkj I v w w' hR hG; first | exact hG | (obtain ⟨s, c, h1, h2⟩ := hG; exact ⟨s, c, h1, h2.fr (st_stab _) hR (fun _ _ h => h)⟩) | (obtain ⟨s, c, h1, h2⟩ := hG; exact ⟨s, c, h1, h2.fr (vl_stab _) hR (fun _ _ h => h)⟩) | (exact hG.fr hR (fun _ _ h => h)) | (obtain ⟨b, h1, h2, hI, h3⟩ := hG; exact ⟨b, h1, h2, hI, h3.ext hR⟩) | (obtain ⟨b, h1, h2, hI, h3⟩ := hG; exact ⟨b, h1, h2, hI, h3.ext hR⟩), fun ⟨_, _, _, _, hs⟩ => by (try dsimp only at hs); split at hs <;> cases hs⟩)) (by intro kS s y G hk; (try dsimp only at hk); split at hk <;> cases hk) ?_
          simp only [List.take_succ_cons, List.take_zero, List.take_nil, List.drop_succ_cons, List.drop_zero, List.drop_nil]
          refine mx_calm rfl (want rfl) (fun u42 eu42 fu42 => rn_loadBlk ag_24 sz_24 rfl ((((B1.ext Eb2).ext E1).ext E12).ext ((ext_drawn _).trans' eu42)) rfl rfl) ?_
          refine mx_any rfl rfl (want rfl) (fun u43 eu43 fu43 => do_call (ent_func cf_20 (argsC (t_agg rfl) args0)) (copy_ct m _ _ _ hBt u43 (hm.fr (st_stab _) (F20.ext ((ext_drawn _).trans' eu43)) (fun _ _ h => h))) (fun v w' E h => ⟨E, h.read⟩)) (fun I39 v39 => ?_)
          refine mx_calm rfl (want rfl) (fun u44 eu44 fu44 => mv_slice rfl) ?_
          refine mx_any rfl rfl (want rfl) (fun u45 eu45 fu45 => do_call (ent_func cf_28 (argsC (t_slice rfl) args0)) (values_ct l sl cl H u45 (hl.fr (vl_stab _) (F20.ext ((ext_drawn _).trans' eu45)) (fun _ _ h => h)) hll) (fun v w' E h => ⟨E, (by obtain ⟨s, c, h1, h2, h3⟩ := h; exact ⟨s, c, h1, own_vl h2 h3⟩)⟩)) (fun I41 v41 => ?_)
          refine mx_calm rfl (want rfl) (fun u46 eu46 fu46 => rn_loadBlk ag_45 sz_45 rfl (((B2.ext E1).ext E12).ext ((ext_drawn _).trans' eu46)) rfl rfl) ?_
          refine mx_any rfl rfl (want rfl) (fun u47 eu47 fu47 => do_call (ent_func cf_29 (argsC (t_agg rfl) args0)) (copypic_ct p sv cv sk ck G hBp u47 (hv.fr (vl_stab _) (F20.ext ((ext_drawn _).trans' eu47)) (fun _ _ h => h)) (hk.fr (vv_stab _) (F20.ext ((ext_drawn _).trans' eu47)) (fun _ _ h => h))) (fun v w' E h => ⟨E, h⟩)) (fun I43 v43 => ?_)
          refine mx_any rfl rfl (want rfl) (fun u48 eu48 fu48 => (do_new2 (rn_alloc ze_24) (show _ ≤ _ from (((ext_drawn _).trans' eu48)).size)).mono (fun v w' h => ⟨h.1, h.2⟩)) (fun I7 v7 => ?_)
          refine mx_any rfl rfl (want rfl) (fun u49 eu49 fu49 => (do_new2 (rn_alloc ze_45) (show _ ≤ _ from (((ext_drawn _).trans' eu49)).size)).mono (fun v w' h => ⟨h.1, h.2⟩)) (fun I9 v9 => ?_)
          refine mx_nil (fun w5 E13' H3 HS => ?_)
          have E13 := (ext_drawn _).trans' E13'
          have F21 := F20.ext E13
          have hz13 := E13.size
          have hI9 := (HS.1 9 _ rfl).2
          have hI7 := (HS.1 7 _ rfl).2
          have hI43 := (HS.1 43 _ rfl).2
          have hI41 := (HS.1 41 _ rfl).2
          have hI39 := (HS.1 39 _ rfl).2
          have hX9_7 := HS.2 9 _ 7 _ rfl rfl (show (9 : Nat) ≠ 7 from by decide)
          have hX9_43 := HS.2 9 _ 43 _ rfl rfl (show (9 : Nat) ≠ 43 from by decide)
          have hX9_41 := HS.2 9 _ 41 _ rfl rfl (show (9 : Nat) ≠ 41 from by decide)
          have hX9_39 := HS.2 9 _ 39 _ rfl rfl (show (9 : Nat) ≠ 39 from by decide)
          have hX7_43 := HS.2 7 _ 43 _ rfl rfl (show (7 : Nat) ≠ 43 from by decide)
          have hX7_41 := HS.2 7 _ 41 _ rfl rfl (show (7 : Nat) ≠ 41 from by decide)
          have hX7_39 := HS.2 7 _ 39 _ rfl rfl (show (7 : Nat) ≠ 39 from by decide)
          have hX43_41 := HS.2 43 _ 41 _ rfl rfl (show (43 : Nat) ≠ 41 from by decide)
          have hX43_39 := HS.2 43 _ 39 _ rfl rfl (show (43 : Nat) ≠ 39 from by decide)
          have hX41_39 := HS.2 41 _ 39 _ rfl rfl (show (41 : Nat) ≠ 39 from by decide)
          simp only at hI9
          simp only at hI7
          simp only at hI43
          simp only at hI41
          simp only at hI39
          simp only at hX9_7
          simp only at hX9_43
          simp only at hX9_41
          simp only at hX9_39
          simp only at hX7_43
          simp only at hX7_41
          simp only at hX7_39
          simp only at hX43_41
          simp only at hX43_39
          simp only at hX41_39
          have g9 := H3 9 _ rfl
          (try dsimp only at g9); obtain ⟨b109, hv9, hbb109, hib109, Bb109⟩ := g9; subst hv9; have hlbb109 := Bb109.lt
          have g7 := H3 7 _ rfl
          (try dsimp only at g7); obtain ⟨b107, hv7, hbb107, hib107, Bb107⟩ := g7; subst hv7; have hlbb107 := Bb107.lt
          have g43 := H3 43 _ rfl
          obtain ⟨sA1, cA1, sB1, cB1, rfl, hPV1, hPC1⟩ := g43
          have g41 := H3 41 _ rfl
          obtain ⟨sV1, cV1, rfl, hVC1⟩ := g41
          have g39 := H3 39 _ rfl
          obtain ⟨sC1, cC1, rfl, hMC1⟩ := g39
          refine lx_set (want rfl) sz_24 rfl (t_agg rfl) rfl rfl rfl Bb107 (Nat.le_of_ble_eq_true rfl) ?_
          intro w6 Es5 Bs5
          have F22 := F21.set Es5 (by omega)
          have hzs5 := Es5.size
          refine lx_value (want rfl) (as_slice rfl) ?_
          refine lx_set (want rfl) sz_45 rfl (t_agg rfl) rfl rfl rfl (Bb109.ne Es5 (by omega)) (Nat.le_of_ble_eq_true rfl) ?_
          intro w7 Es6 Bs6
          have F23 := F22.set Es6 (by omega)
          have hzs6 := Es6.size
          refine lx_nil ?_
          refine wk_seq ?_
          refine wk_region ?_
          refine lx_value (want rfl) (rn_loadBlk ag_24 sz_24 rfl (Bs5.ne Es6 (by omega)) rfl rfl) ?_
          refine lx_value (want rfl) (mv_slice rfl) ?_
          refine lx_call (want rfl) (ent_func cf_30 (argsC (t_agg rfl) (argsC (t_slice rfl) args0))) (pDraw_ct m sC1 cC1 _ hBt l sV1 cV1 _ hll w7 (hMC1.fr (st_stab _) (Fr.trans (Fr.trans (Fr.refl (fun k => k = b107 ∨ k = b109) w5) Es5 (fun k _ h => (.inl h))) Es6 (fun k _ h => (.inr h))) (fun k hk h => by have hk1 := hk.1; have hk2 := hk.2; (try dsimp only at h hk1 hk2); first | exact h.elim | omega | (rcases (show _ ∨ _ from h) with h | h <;> omega))) (hVC1.fr (vl_stab _) (Fr.trans (Fr.trans (Fr.refl (fun k => k = b107 ∨ k = b109) w5) Es5 (fun k _ h => (.inl h))) Es6 (fun k _ h => (.inr h))) (fun k hk h => by have hk1 := hk.1; have hk2 := hk.2; (try dsimp only at h hk1 hk2); first | exact h.elim | omega | (rcases (show _ ∨ _ from h) with h | h <;> omega)))) ?_
          rintro _ w8 E14 ⟨pv, rfl, sP, cP, sQ, cQ, rfl, hPV, hPC⟩
          have F24 := F23.ext E14
          have hz14 := E14.size
          refine lx_value (want rfl) (mv_tuple rfl) ?_
          refine lx_value (want rfl) (rn_extract rfl rfl) ?_
          refine lx_value (want rfl) (rn_extract rfl rfl) ?_
          refine lx_new (want rfl) (rn_alloc ze_45) ?_
          intro b5 w9 hb5 Eb5 B5 hlb5
          have F25 := F24.ext Eb5
          have hzb5 := Eb5.size
          refine lx_set (want rfl) sz_45 rfl (t_agg rfl) rfl rfl rfl B5 (Nat.le_of_ble_eq_true rfl) ?_
          intro w10 Es7 Bs7
          have F26 := F25.set Es7 (by omega)
          have hzs7 := Es7.size
          refine lx_value (want rfl) (as_int rfl) ?_
          refine lx_nil ?_
          refine wk_seq ?_
          refine wk_region ?_
          refine lx_value (want rfl) (rn_loadBlk ag_24 sz_24 rfl (((((((((B1.ext Eb2).ext E1).ext E12).ext E13).ne Es5 (by omega)).ne Es6 (by omega)).ext E14).ext Eb5).ne Es7 (by omega)) rfl rfl) ?_
          refine lx_call (want rfl) (ent_func cf_20 (argsC (t_agg rfl) args0)) (((copy_ct m _ _ _ hBt w10 (hm.fr (st_stab _) F26 (fun _ _ h => h))).mono (fun _ _ h => h) (fun _ _ _ h => h.read))) ?_
          rintro _ w11 E15 ⟨sC2, cC2, rfl, hMC2⟩
          have F27 := F26.ext E15
          have hz15 := E15.size
          refine lx_value (want rfl) (mv_slice rfl) ?_
          refine lx_call (want rfl) (ent_func cf_31 (argsC (t_agg rfl) (argsC (t_slice rfl) args0))) (refdraw_ct m sC2 cC2 _ hBt l sl cl H hll w11 (hMC2.fr (st_stab _) (Fr.refl no w11) (fun k hk h => by have hk := hk.2; first | exact (show False from h) | ((try dsimp only at h); omega) | (rcases (show _ ∨ _ from h) with h | h <;> omega))) (hl.fr (vl_stab _) F27 (fun _ _ h => h))) ?_
          rintro _ w12 E16 ⟨pv2, rfl, sP2, cP2, sQ2, cQ2, rfl, hPV2, hPC2⟩
          have F28 := F27.ext E16
          have hz16 := E16.size
          refine lx_value (want rfl) (mv_tuple rfl) ?_
          refine lx_value (want rfl) (rn_extract rfl rfl) ?_
          refine lx_value (want rfl) (rn_extract rfl rfl) ?_
          refine lx_new (want rfl) (rn_alloc ze_45) ?_
          intro b6 w13 hb6 Eb6 B6 hlb6
          have F29 := F28.ext Eb6
          have hzb6 := Eb6.size
          refine lx_set (want rfl) sz_45 rfl (t_agg rfl) rfl rfl rfl B6 (Nat.le_of_ble_eq_true rfl) ?_
          intro w14 Es8 Bs8
          have F30 := F29.set Es8 (by omega)
          have hzs8 := Es8.size
          refine lx_value (want rfl) (as_int rfl) ?_
          refine lx_nil ?_
          refine wk_seq ?_
          have a1 := (hPV.fr (vl_stab _) (Fr.trans (Fr.ext (Fr.ext (Fr.ext (Fr.trans (Fr.ext (Fr.refl (fun k => k = b5 ∨ k = b6) w8) Eb5) Es7 (fun k _ h => (.inl h))) E15) E16) Eb6) Es8 (fun k _ h => (.inr h))) (fun k hk h => by have hk1 := hk.1; have hk2 := hk.2; (try dsimp only at h hk1 hk2); first | exact h.elim | omega | (rcases (show _ ∨ _ from h) with h | h <;> omega)))
          have a2 := (hPC.fr (vv_stab _) (Fr.trans (Fr.ext (Fr.ext (Fr.ext (Fr.trans (Fr.ext (Fr.refl (fun k => k = b5 ∨ k = b6) w8) Eb5) Es7 (fun k _ h => (.inl h))) E15) E16) Eb6) Es8 (fun k _ h => (.inr h))) (fun k hk h => by have hk1 := hk.1; have hk2 := hk.2; (try dsimp only at h hk1 hk2); first | exact h.elim | omega | (rcases (show _ ∨ _ from h) with h | h <;> omega)))
          have a3 := (hPV2.fr (vl_stab _) (Fr.trans (Fr.ext (Fr.refl (fun k => k = b6) w12) Eb6) Es8 (fun k _ h => h)) (fun k hk h => by have hk1 := hk.1; have hk2 := hk.2; (try dsimp only at h hk1 hk2); first | exact h.elim | omega | (rcases (show _ ∨ _ from h) with h | h <;> omega)))
          have a4 := (hPC2.fr (vv_stab _) (Fr.trans (Fr.ext (Fr.refl (fun k => k = b6) w12) Eb6) Es8 (fun k _ h => h)) (fun k hk h => by have hk1 := hk.1; have hk2 := hk.2; (try dsimp only at h hk1 hk2); first | exact h.elim | omega | (rcases (show _ ∨ _ from h) with h | h <;> omega)))
          have a5 := (hPV1.fr (vl_stab _) (Fr.trans (Fr.ext (Fr.ext (Fr.ext (Fr.trans (Fr.ext (Fr.ext (Fr.trans (Fr.trans (Fr.refl (fun k => k = b107 ∨ k = b109 ∨ k = b5 ∨ k = b6) w5) Es5 (fun k _ h => (.inl h))) Es6 (fun k _ h => (.inr (.inl h)))) E14) Eb5) Es7 (fun k _ h => (.inr (.inr (.inl h))))) E15) E16) Eb6) Es8 (fun k _ h => (.inr (.inr (.inr h))))) (fun k hk h => by have hk1 := hk.1; have hk2 := hk.2; (try dsimp only at h hk1 hk2); first | exact h.elim | omega | (rcases (show _ ∨ _ from h) with h | h <;> omega)))
          have a6 := (hPC1.fr (vv_stab _) (Fr.trans (Fr.ext (Fr.ext (Fr.ext (Fr.trans (Fr.ext (Fr.ext (Fr.trans (Fr.trans (Fr.refl (fun k => k = b107 ∨ k = b109 ∨ k = b5 ∨ k = b6) w5) Es5 (fun k _ h => (.inl h))) Es6 (fun k _ h => (.inr (.inl h)))) E14) Eb5) Es7 (fun k _ h => (.inr (.inr (.inl h))))) E15) E16) Eb6) Es8 (fun k _ h => (.inr (.inr (.inr h))))) (fun k hk h => by have hk1 := hk.1; have hk2 := hk.2; (try dsimp only at h hk1 hk2); first | exact h.elim | omega | (rcases (show _ ∨ _ from h) with h | h <;> omega)))
          have a7 := (hMC1.fr (st_stab _) (Fr.trans (Fr.ext (Fr.ext (Fr.ext (Fr.trans (Fr.ext (Fr.ext (Fr.trans (Fr.trans (Fr.refl (fun k => k = b107 ∨ k = b109 ∨ k = b5 ∨ k = b6) w5) Es5 (fun k _ h => (.inl h))) Es6 (fun k _ h => (.inr (.inl h)))) E14) Eb5) Es7 (fun k _ h => (.inr (.inr (.inl h))))) E15) E16) Eb6) Es8 (fun k _ h => (.inr (.inr (.inr h))))) (fun k hk h => by have hk1 := hk.1; have hk2 := hk.2; (try dsimp only at h hk1 hk2); first | exact h.elim | omega | (rcases (show _ ∨ _ from h) with h | h <;> omega)))
          have a8 := (hVC1.fr (vl_stab _) (Fr.trans (Fr.ext (Fr.ext (Fr.ext (Fr.trans (Fr.ext (Fr.ext (Fr.trans (Fr.trans (Fr.refl (fun k => k = b107 ∨ k = b109 ∨ k = b5 ∨ k = b6) w5) Es5 (fun k _ h => (.inl h))) Es6 (fun k _ h => (.inr (.inl h)))) E14) Eb5) Es7 (fun k _ h => (.inr (.inr (.inl h))))) E15) E16) Eb6) Es8 (fun k _ h => (.inr (.inr (.inr h))))) (fun k hk h => by have hk1 := hk.1; have hk2 := hk.2; (try dsimp only at h hk1 hk2); first | exact h.elim | omega | (rcases (show _ ∨ _ from h) with h | h <;> omega)))
          refine wk_mix 33 (fun kS => match kS with | 2 => .val (.bool true) | 10 => .val (.bool (isPicB p)) | 12 => .val (.bool (isPicB p)) | 18 => .val (.bool true) | 23 => .val (.bool true) | 28 => .val (.bool true) | 31 => .val (.bool true) | _ => .none) (by kernel_rfl) (by kernel_rfl) (by intro kS G hk; (try dsimp only at hk); (split at hk) <;> first | (cases hk; done) | (injection hk with hk; subst hk; exact ⟨by intro j hkj I v w w' hR hG; first | exact hG, fun ⟨_, _, _, _, hs⟩ => by (try dsimp only at hs); split at hs <;> cases hs⟩)) (by intro kS s y G hk; (try dsimp only at hk); split at hk <;> cases hk) ?_
          simp only [List.take_succ_cons, List.take_zero, List.take_nil, List.drop_succ_cons, List.drop_zero, List.drop_nil]
          refine mx_calm rfl (want rfl) (fun u50 eu50 fu50 => rn_loadBlk ag_45 sz_45 rfl (((((Bs7.ext E15).ext E16).ext Eb6).ne Es8 (by omega)).ext ((ext_drawn _).trans' eu50)) rfl rfl) ?_
          refine mx_calm rfl (want rfl) (fun u51 eu51 fu51 => rn_loadBlk ag_45 sz_45 rfl (Bs8.ext ((ext_drawn _).trans' eu51)) rfl rfl) ?_
          refine mx_val rfl (want rfl) (fun u52 eu52 fu52 => do_call (ent_func cf_32 (argsC (t_agg rfl) (argsC (t_agg rfl) args0))) (samepic_ct (drawR m l).2 _ _ _ _ _ (drawR m l).2 _ _ _ _ _ hbd u52 (a1.fr (vl_stab _) ((ext_drawn _).trans' eu52) (fun _ _ h => h)) (a2.fr (vv_stab _) ((ext_drawn _).trans' eu52) (fun _ _ h => h)) (a3.fr (vl_stab _) ((ext_drawn _).trans' eu52) (fun _ _ h => h)) (a4.fr (vv_stab _) ((ext_drawn _).trans' eu52) (fun _ _ h => h))) (fun _ _ E h => ⟨E, (h.trans (congrArg Value.bool (decide_eq_true rfl)))⟩)) ?_
          refine mx_b_t (rfl) ?_
          refine mx_calm rfl (want rfl) (fun u53 eu53 fu53 => mv_bool rfl) ?_
          refine mx_calm rfl (want_if (j := 3) (d := 60) (x := true) (y := true) rfl rfl (by decide) rfl) (fun u54 eu54 fu54 => mv_int rfl) ?_
          refine mx_calm rfl (want_if (j := 3) (d := 60) (x := true) (y := true) rfl rfl (by decide) rfl) (fun u55 eu55 fu55 => mv_int rfl) ?_
          refine mx_calm rfl (want_if (j := 3) (d := 60) (x := true) (y := true) rfl rfl (by decide) rfl) (fun u56 eu56 fu56 => rn_eql rfl rfl) ?_
          refine mx_dec_t (rfl) ?_
          refine mx_calm rfl (want rfl) (fun u57 eu57 fu57 => pick_t rfl rfl) ?_
          refine mx_calm rfl (want rfl) (fun u58 eu58 fu58 => mv_bool rfl) ?_
          refine mx_calm rfl (want_if (j := 8) (d := 65) (x := true) (y := true) rfl rfl (by decide) rfl) (fun u59 eu59 fu59 => rn_loadBlk ag_45 sz_45 rfl ((((((((Bs6.ext E14).ext Eb5).ne Es7 (by omega)).ext E15).ext E16).ext Eb6).ne Es8 (by omega)).ext ((ext_drawn _).trans' eu59)) rfl rfl) ?_
          refine mx_val rfl (want_if (j := 8) (d := 65) (x := true) (y := true) rfl rfl (by decide) rfl) (fun u60 eu60 fu60 => do_call (ent_func cf_33 (argsC (t_agg rfl) args0)) (pispic_ct p _ _ _ _ _ hBp u60 (a5.fr (vl_stab _) ((ext_drawn _).trans' eu60) (fun _ _ h => h)) (a6.fr (vv_stab _) ((ext_drawn _).trans' eu60) (fun _ _ h => h))) (fun _ _ E h => ⟨E, h⟩)) ?_
          refine mx_calm rfl (want_if (j := 8) (d := 65) (x := true) (y := true) rfl rfl (by decide) rfl) (fun u61 eu61 fu61 => rn_loadBlk ag_45 sz_45 rfl (((((((((((((B2.ext E1).ext E12).ext E13).ne Es5 (by omega)).ne Es6 (by omega)).ext E14).ext Eb5).ne Es7 (by omega)).ext E15).ext E16).ext Eb6).ne Es8 (by omega)).ext ((ext_drawn _).trans' eu61)) rfl rfl) ?_
          refine mx_val rfl (want_if (j := 8) (d := 65) (x := true) (y := true) rfl rfl (by decide) rfl) (fun u62 eu62 fu62 => do_call (ent_func cf_34 (argsC (t_agg rfl) args0)) (refispic_ct p sv cv sk ck G hBp u62 (hv.fr (vl_stab _) (F30.ext ((ext_drawn _).trans' eu62)) (fun _ _ h => h)) (hk.fr (vv_stab _) (F30.ext ((ext_drawn _).trans' eu62)) (fun _ _ h => h))) (fun _ _ E h => ⟨E, h⟩)) ?_
          refine mx_calm rfl (want_if (j := 8) (d := 65) (x := true) (y := true) rfl rfl (by decide) rfl) (fun u63 eu63 fu63 => rn_eqlB Tryz.underlying4 rfl rfl) ?_
          refine mx_dec_t (rfl) ?_
          refine mx_calm rfl (want rfl) (fun u64 eu64 fu64 => pick_t rfl rfl) ?_
          refine mx_calm rfl (want rfl) (fun u65 eu65 fu65 => mv_bool rfl) ?_
          refine mx_calm rfl (want_if (j := 15) (d := 72) (x := true) (y := true) rfl rfl (by decide) rfl) (fun u66 eu66 fu66 => rn_loadBlk ag_24 sz_24 rfl (((((((((Bs5.ne Es6 (by omega)).ext E14).ext Eb5).ne Es7 (by omega)).ext E15).ext E16).ext Eb6).ne Es8 (by omega)).ext ((ext_drawn _).trans' eu66)) rfl rfl) ?_
          refine mx_calm rfl (want_if (j := 15) (d := 72) (x := true) (y := true) rfl rfl (by decide) rfl) (fun u67 eu67 fu67 => rn_loadBlk ag_24 sz_24 rfl ((((((((((((((B1.ext Eb2).ext E1).ext E12).ext E13).ne Es5 (by omega)).ne Es6 (by omega)).ext E14).ext Eb5).ne Es7 (by omega)).ext E15).ext E16).ext Eb6).ne Es8 (by omega)).ext ((ext_drawn _).trans' eu67)) rfl rfl) ?_
          refine mx_val rfl (want_if (j := 15) (d := 72) (x := true) (y := true) rfl rfl (by decide) rfl) (fun u68 eu68 fu68 => do_call (ent_func cf_24 (argsC (t_agg rfl) (argsC (t_agg rfl) args0))) (samemem_ct m _ _ _ m s c K hBt u68 (a7.fr (st_stab _) ((ext_drawn _).trans' eu68) (fun _ _ h => h)) (hm.fr (st_stab _) (F30.ext ((ext_drawn _).trans' eu68)) (fun _ _ h => h))) (fun _ _ E h => ⟨E, (h.trans (congrArg Value.bool (decide_eq_true rfl)))⟩)) ?_
          refine mx_b_t (rfl) ?_
          refine mx_calm rfl (want rfl) (fun u69 eu69 fu69 => pick_t rfl rfl) ?_
          refine mx_calm rfl (want rfl) (fun u70 eu70 fu70 => mv_bool rfl) ?_
          refine mx_calm rfl (want_if (j := 20) (d := 77) (x := true) (y := true) rfl rfl (by decide) rfl) (fun u71 eu71 fu71 => mv_slice rfl) ?_
          refine mx_calm rfl (want_if (j := 20) (d := 77) (x := true) (y := true) rfl rfl (by decide) rfl) (fun u72 eu72 fu72 => mv_slice rfl) ?_
          refine mx_val rfl (want_if (j := 20) (d := 77) (x := true) (y := true) rfl rfl (by decide) rfl) (fun u73 eu73 fu73 => do_call (ent_func cf_25 (argsC (t_slice rfl) (argsC (t_slice rfl) args0))) (samevalues_ct l l _ _ _ _ _ _ u73 (a8.fr (vl_stab _) ((ext_drawn _).trans' eu73) (fun _ _ h => h)) (hl.fr (vl_stab _) (F30.ext ((ext_drawn _).trans' eu73)) (fun _ _ h => h)) hll) (fun _ _ E h => ⟨E, (h.trans (congrArg Value.bool (decide_eq_true rfl)))⟩)) ?_
          refine mx_b_t (rfl) ?_
          refine mx_calm rfl (want rfl) (fun u74 eu74 fu74 => pick_t rfl rfl) ?_
          refine mx_calm rfl (want rfl) (fun u75 eu75 fu75 => mv_bool rfl) ?_
          refine mx_calm rfl (want_if (j := 25) (d := 82) (x := true) (y := true) rfl rfl (by decide) rfl) (fun u76 eu76 fu76 => rn_loadBlk ag_45 sz_45 rfl ((((((((Bs6.ext E14).ext Eb5).ne Es7 (by omega)).ext E15).ext E16).ext Eb6).ne Es8 (by omega)).ext ((ext_drawn _).trans' eu76)) rfl rfl) ?_
          refine mx_calm rfl (want_if (j := 25) (d := 82) (x := true) (y := true) rfl rfl (by decide) rfl) (fun u77 eu77 fu77 => rn_loadBlk ag_45 sz_45 rfl (((((((((((((B2.ext E1).ext E12).ext E13).ne Es5 (by omega)).ne Es6 (by omega)).ext E14).ext Eb5).ne Es7 (by omega)).ext E15).ext E16).ext Eb6).ne Es8 (by omega)).ext ((ext_drawn _).trans' eu77)) rfl rfl) ?_
          refine mx_val rfl (want_if (j := 25) (d := 82) (x := true) (y := true) rfl rfl (by decide) rfl) (fun u78 eu78 fu78 => do_call (ent_func cf_32 (argsC (t_agg rfl) (argsC (t_agg rfl) args0))) (samepic_ct p _ _ _ _ _ p sv cv sk ck G hBp u78 (a5.fr (vl_stab _) ((ext_drawn _).trans' eu78) (fun _ _ h => h)) (a6.fr (vv_stab _) ((ext_drawn _).trans' eu78) (fun _ _ h => h)) (hv.fr (vl_stab _) (F30.ext ((ext_drawn _).trans' eu78)) (fun _ _ h => h)) (hk.fr (vv_stab _) (F30.ext ((ext_drawn _).trans' eu78)) (fun _ _ h => h))) (fun _ _ E h => ⟨E, (h.trans (congrArg Value.bool (decide_eq_true rfl)))⟩)) ?_
          refine mx_b_t (rfl) ?_
          refine mx_calm rfl (want rfl) (fun u79 eu79 fu79 => pick_t rfl rfl) ?_
          refine mx_calm rfl (want rfl) (fun u80 eu80 fu80 => mv_bool rfl) ?_
          refine mx_val rfl (want_if (j := 30) (d := 87) (x := true) (y := true) rfl rfl (by decide) rfl) (fun u81 eu81 fu81 => do_call (ent_func cf_19 args0) (awake_ct u81) (fun _ _ E h => ⟨E, h⟩)) ?_
          refine mx_calm rfl (want rfl) (fun u82 eu82 fu82 => pick_t rfl rfl) ?_
          refine mx_nil (fun w15 E17' H4 HS => ?_)
          have E17 := (ext_drawn _).trans' E17'
          have F31 := F30.ext E17
          have hz17 := E17.size
          refine lx_value (want rfl) (as_bool rfl) ?_
          refine lx_nil ?_
          refine wk_ret ?_
          refine retR1 Tryz.results4 (.tmp (t_bool rfl)) F31 ?_
          exact rfl
        ·
          refine lx_value (want_if (j := 18) (d := 32) (x := false) (y := false) rfl rfl (by decide) rfl) (rn_not rfl) ?_
          refine lx_value (want rfl) (pick_f rfl rfl) ?_
          refine lx_nil ?_
          refine wk_cond_t rfl ?_
          refine wk_seq ?_
          refine wk_region ?_
          refine lx_call (want rfl) (ent_func cf_19 args0) (awake_ct w4) ?_
          rintro _ w5 E18 rfl
          have F32 := F20.ext E18
          have hz18 := E18.size
          refine lx_value (want rfl) (as_bool rfl) ?_
          refine lx_nil ?_
          refine wk_ret ?_
          refine retR1 Tryz.results4 (.tmp (t_bool rfl)) F32 ?_
          exact rfl
  ·
    refine lx_value (want rfl) (rn_not rfl) ?_
    refine lx_value (want rfl) (mv_bool rfl) ?_
    refine lx_skip (want_if (j := 3) (d := 17) (x := false) (y := true) rfl rfl (by decide) rfl) ?_
    refine lx_skip (want_if (j := 3) (d := 17) (x := false) (y := true) rfl rfl (by decide) rfl) ?_
    refine lx_skip (want_if (j := 3) (d := 17) (x := false) (y := true) rfl rfl (by decide) rfl) ?_
    refine lx_skip (want_if (j := 3) (d := 17) (x := false) (y := true) rfl rfl (by decide) rfl) ?_
    refine lx_skip (want_un (j := 7) (d := 21) (x := true) rfl rfl (by decide) rfl) ?_
    refine lx_skip (want_un (j := 7) (d := 21) (x := true) rfl rfl (by decide) rfl) ?_
    refine lx_skip (want_un (j := 7) (d := 21) (x := true) rfl rfl (by decide) rfl) ?_
    refine lx_skip (want_if (j := 3) (d := 17) (x := false) (y := true) rfl rfl (by decide) rfl) ?_
    refine lx_value (want rfl) (pick_t rfl rfl) ?_
    refine lx_value (want rfl) (mv_bool rfl) ?_
    refine lx_skip (want_if (j := 13) (d := 27) (x := false) (y := true) rfl rfl (by decide) rfl) ?_
    refine lx_skip (want_if (j := 13) (d := 27) (x := false) (y := true) rfl rfl (by decide) rfl) ?_
    refine lx_skip (want_if (j := 13) (d := 27) (x := false) (y := true) rfl rfl (by decide) rfl) ?_
    refine lx_value (want rfl) (pick_t rfl rfl) ?_
    refine lx_value (want rfl) (mv_bool rfl) ?_
    refine lx_skip (want_if (j := 18) (d := 32) (x := false) (y := true) rfl rfl (by decide) rfl) ?_
    refine lx_skip (want_if (j := 18) (d := 32) (x := false) (y := true) rfl rfl (by decide) rfl) ?_
    refine lx_skip (want_if (j := 18) (d := 32) (x := false) (y := true) rfl rfl (by decide) rfl) ?_
    refine lx_value (want rfl) (pick_t rfl rfl) ?_
    refine lx_nil ?_
    refine wk_cond_t rfl ?_
    refine wk_seq ?_
    refine wk_region ?_
    refine lx_call (want rfl) (ent_func cf_19 args0) (awake_ct w3) ?_
    rintro _ w4 E19 rfl
    have F33 := F3.ext E19
    have hz19 := E19.size
    refine lx_value (want rfl) (as_bool rfl) ?_
    refine lx_nil ?_
    refine wk_ret ?_
    refine retR1 Tryz.results4 (.tmp (t_bool rfl)) F33 ?_
    exact rfl

end Go.Proofs.YtnhgfmbmfjmonaaGreatDoor

/- What functions compute: cellsstrict. -/
import Derived.Test.YtnhgfmbmfjmonaaGreatDoorStrictFacts
import Derived.Test.YtnhgfmbmfjmonaaGreatDoorStrictPre
import Derived.Test.YtnhgfmbmfjmonaaGreatDoorStrictWalk11
import Derived.Test.YtnhgfmbmfjmonaaGreatDoorStrictWalk15
import Derived.Test.YtnhgfmbmfjmonaaGreatDoorStrictWalk4
set_option maxRecDepth 100000
set_option linter.unusedVariables false
set_option linter.unusedSimpArgs false
namespace Go.Proofs.YtnhgfmbmfjmonaaGreatDoor
open Go Go.RowKit Go.Mix Go.Eng
set_option maxHeartbeats 4000000 in
set_option maxRecDepth 100000 in
theorem cellsstrict_ct (a z : Vl) (w0 : World) :
    CT Tryz.prog 5 [.agg #[.int .u8 a.1, .int .i64 a.2], .agg #[.int .u8 z.1, .int .i64 z.2]] w0 no (fun v _ => v = .bool true) := by
  have F0 := Fr.refl no w0
  refine ct_body Tryz.func5 rfl Tryz.ntmps5 (Nat.le_of_ble_eq_true rfl) ?_
  refine wk_seq ?_
  refine wk_region ?_
  refine lx_new (want rfl) (rn_box (t_agg rfl)) ?_
  intro b1 w1 hb1 Eb1 B1 hlb1
  have F1 := F0.ext Eb1
  have hzb1 := Eb1.size
  refine lx_new (want rfl) (rn_box (t_agg rfl)) ?_
  intro b2 w2 hb2 Eb2 B2 hlb2
  have F2 := F1.ext Eb2
  have hzb2 := Eb2.size
  refine lx_value (want rfl) (as_bool rfl) ?_
  refine lx_nil ?_
  refine wk_seq ?_
  refine wk_seq ?_
  refine wk_region ?_
  refine lx_value (want rfl) (rn_loadBlk ag_36 sz_36 rfl (B1.ext Eb2) rfl rfl) ?_
  refine lx_call (want rfl) (ent_func cf_35 (argsC (t_agg rfl) (argsC (t_int rfl) args0))) (refisvalue_ct a.1 a.2 (-1) w2) ?_
  rintro _ w3 E1 rfl
  have F3 := F2.ext E1
  have hz1 := E1.size
  refine lx_split (fun hva => ?_) (fun hva => ?_)
  ·
    have haV : isValA a = true := by rw [← isValR_any]; exact hva
    refine lx_value (want rfl) (rn_not rfl) ?_
    refine lx_value (want rfl) (mv_bool rfl) ?_
    refine lx_value (want_if (j := 3) (d := 19) (x := false) (y := false) rfl rfl (by decide) rfl) (rn_loadBlk ag_36 sz_36 rfl (B2.ext E1) rfl rfl) ?_
    refine lx_call (want_if (j := 3) (d := 19) (x := false) (y := false) rfl rfl (by decide) rfl) (ent_func cf_35 (argsC (t_agg rfl) (argsC (t_int rfl) args0))) (refisvalue_ct z.1 z.2 (-1) w3) ?_
    rintro _ w4 E2 rfl
    have F4 := F3.ext E2
    have hz2 := E2.size
    refine lx_split (fun hvb => ?_) (fun hvb => ?_)
    ·
      have hbV : isValA z = true := by rw [← isValR_any]; exact hvb
      refine lx_value (want_if (j := 3) (d := 19) (x := false) (y := false) rfl rfl (by decide) rfl) (rn_not rfl) ?_
      refine lx_value (want rfl) (pick_f rfl rfl) ?_
      refine lx_nil ?_
      refine wk_cond_f rfl ?_
      refine wk_skip ?_
      refine wk_seq ?_
      refine wk_region ?_
      refine lx_newS (want rfl) (rn_bslice (xs := [_, _, _, _, _, _, _, _]) Tryz.underlying54 sz_9 ze_9 rfl (argsC (t_string rfl) (argsC (t_string rfl) (argsC (t_string rfl) (argsC (t_string rfl) (argsC (t_string rfl) (argsC (t_string rfl) (argsC (t_string rfl) (argsC (t_string rfl) args0)))))))) (CL.cons rfl rfl (CL.cons rfl rfl (CL.cons rfl rfl (CL.cons rfl rfl (CL.cons rfl rfl (CL.cons rfl rfl (CL.cons rfl rfl (CL.cons rfl rfl CL.nil)))))))) rfl (Nat.le_of_ble_eq_true rfl)) ?_
      intro b3 w5 hb3 Eb3 B3 hlb3
      have F5 := F4.ext Eb3
      have hzb3 := Eb3.size
      refine lx_value (want rfl) (as_slice rfl) ?_
      refine lx_nil ?_
      refine wk_seq ?_
      refine wk_seq ?_
      refine wk_region ?_
      refine lx_value (want rfl) (as_int rfl) ?_
      refine lx_nil ?_
      refine wk_block ?_
      refine wk_loopA [4, 6, 7, 8, 9, 10, 11, 26, 27, 28, 29, 30, 31, 32, 33, 34, 35, 36, 37, 38, 39, 40, 41, 42, 43, 44, 45, 46, 47, 48, 49, 50, 51, 52, 53, 54, 55, 56, 57, 58, 59, 60, 61, 62, 63, 64, 65, 66, 67, 68, 69, 70, 71, 72, 73, 74, 75, 76, 77, 78, 79, 80, 81, 82, 83, 84, 85, 86, 87, 88, 89, 90, 91, 92, 93, 94, 95, 96, 97, 98, 99, 100] no (fun nM ρ w => ∃ (i : Nat), nM = 8 - i ∧ ρ 6 = .int .i64 i ∧ (i ≤ 8)) _ ⟨0, rfl, rfl, by omega⟩ ?_
      rintro n1 ρ1 w6 A1 EL1 ⟨i, rfl, hs1_6, hi⟩
      have F6 := F5.ext EL1
      have hzL1 := EL1.size
      refine wk_seq ?_
      refine wk_seq ?_
      refine wk_region ?_
      refine lx_value (want rfl) (mv_int hs1_6) ?_
      refine lx_value (want rfl) (mv_slice (A1.at 5 rfl rfl)) ?_
      refine lx_value (want rfl) (rn_len Tryz.underlying54 rfl) ?_
      refine lx_value (want rfl) (rn_lss rfl rfl) ?_
      refine lx_dec (fun hlt => ?_) (fun hlt => ?_)
      ·
        have hi8 : i < 8 := by omega
        have hkk := strK_ok hi8
        refine lx_nil ?_
        refine wk_cond_t rfl ?_
        refine wk_skip ?_
        refine wk_seq ?_
        refine wk_block ?_
        refine wk_seq ?_
        refine wk_mix 13 (fun kS => match kS with | 6 => .any (fun I v w => ∃ b, v = .slice (some ⟨b, 0, none⟩) 2 2 ∧ w6.heap.size ≤ b ∧ (I.1 ≤ b ∧ b < I.2) ∧ Blk w b [.int .u8 a.1, .int .i64 a.2, .int .u8 z.1, .int .i64 z.2] 36) | 7 => .val (.tuple #[.agg #[.int .u8 (primV (strK i) [a, z]).1, .int .i64 (primV (strK i) [a, z]).2], .int .i64 0]) | 11 => .any (fun I v w => v = .pointer (some ⟨I.1, 0, none⟩) ∧ w6.heap.size ≤ I.1 ∧ I.1 < I.2 ∧ Blk w I.1 [.int .u8 0, .int .i64 0] 36) | 12 => .sto 7 41 (fun J u w => J.1 < J.2 ∧ Blk w J.1 u.cells.toList 36) | _ => .none) (by kernel_rfl) (by kernel_rfl) (by intro kS G hk; (try dsimp only at hk); (split at hk) <;> first | (cases hk; done) | (injection hk with hk; subst hk; exact ⟨by intro j hkj I v w w' hR hG; first | exact hG | (obtain ⟨b, h1, h2, hI, h3⟩ := hG; exact ⟨b, h1, h2, hI, h3.ext hR⟩) | (obtain ⟨h1, h2, hI, h3⟩ := hG; exact ⟨h1, h2, hI, h3.ext hR⟩), fun _ I v w w' hR hG => by first | exact hG | (obtain ⟨b, h1, h2, hI, h3⟩ := hG; exact ⟨b, h1, h2, hI, h3.fr hR (fun h => h.2 hI)⟩) | (obtain ⟨h1, h2, hI, h3⟩ := hG; exact ⟨h1, h2, hI, h3.fr hR (fun h => h.2 ⟨Nat.le_refl _, hI⟩)⟩)⟩)) (by intro kS s y G hk; (try dsimp only at hk); (split at hk) <;> first | (cases hk; done) | (injection hk with hk1 hk2 hk3; subst hk1; subst hk2; subst hk3; exact ⟨by kernel_rfl, by intro j hkj I v w w' hR hG; exact ⟨hG.1, hG.2.ext hR⟩, fun I v w w' hR hG => ⟨hG.1, hG.2.fr hR (fun h => h.2 ⟨Nat.le_refl _, hG.1⟩)⟩⟩)) ?_
        simp only [List.take_succ_cons, List.take_zero, List.take_nil, List.drop_succ_cons, List.drop_zero, List.drop_nil]
        refine mx_calm rfl (want rfl) (fun u1 eu1 fu1 => mv_slice (A1.at 5 rfl rfl)) ?_
        refine mx_calm rfl (want rfl) (fun u2 eu2 fu2 => mv_int hs1_6) ?_
        refine mx_calm rfl (want rfl) (fun u3 eu3 fu3 => rn_index _ Tryz.underlying54 sz_9 rfl rfl rfl (by omega)) ?_
        refine mx_calm rfl (want rfl) (fun u4 eu4 fu4 => rn_load1 ag_9 rfl ((((B3.ext EL1).ext ((ext_drawn _).trans' eu4))).cell (0 + i * 1) (str_cell hi8))) ?_
        refine mx_calm rfl (want rfl) (fun u5 eu5 fu5 => rn_loadBlk ag_36 sz_36 (A1.at 2 rfl rfl) ((((((B1.ext Eb2).ext E1).ext E2).ext Eb3).ext EL1).ext ((ext_drawn _).trans' eu5)) rfl rfl) ?_
        refine mx_calm rfl (want rfl) (fun u6 eu6 fu6 => rn_loadBlk ag_36 sz_36 (A1.at 3 rfl rfl) (((((B2.ext E1).ext E2).ext Eb3).ext EL1).ext ((ext_drawn _).trans' eu6)) rfl rfl) ?_
        refine mx_any rfl rfl (want rfl) (fun u7 eu7 fu7 => (do_newS2 (rn_bslice (xs := [.tmp 37, .tmp 38]) Tryz.underlying30 sz_36 ze_36 rfl (argsC (t_agg rfl) (argsC (t_agg rfl) args0)) (CL.cons rfl rfl (CL.cons rfl rfl CL.nil)) rfl (Nat.le_of_ble_eq_true rfl)) (show _ ≤ _ from (((ext_drawn _).trans' eu7)).size)).mono (fun v w' h => ⟨h.1, h.2⟩)) (fun I39 v39 => ?_)
        refine mx_val rfl (want rfl) (fun u8 eu8 fu8 => by obtain ⟨bB, rfl, _, _, hBB⟩ := fu8 39 _ rfl (show (39 : Nat) ∈ _ from by decide); exact do_call (ent_func cf_36 (argsC (t_string rfl) (argsC (t_slice rfl) args0))) (primTwo_ct hkk.1 hkk.2 haV hbV (primS_2 hkk.1 hkk.2 haV hbV) (vl_blk [a, z] (by simp) hBB)) (fun _ _ E h => ⟨E, h⟩)) ?_
        refine mx_calm rfl (want rfl) (fun u9 eu9 fu9 => mv_tuple rfl) ?_
        refine mx_calm rfl (want rfl) (fun u10 eu10 fu10 => rn_extract rfl rfl) ?_
        refine mx_calm rfl (want rfl) (fun u11 eu11 fu11 => rn_extract rfl rfl) ?_
        refine mx_any rfl rfl (want rfl) (fun u12 eu12 fu12 => (do_new3 (rn_alloc ze_36) (show _ ≤ _ from (((ext_drawn _).trans' eu12)).size)).mono (fun v w' h => ⟨h.1, h.2⟩)) (fun I7 v7 => ?_)
        refine mx_sto rfl rfl rfl rfl (want rfl) (fun u13 eu13 fu13 _ => by obtain ⟨rfl, hl7, hi7, hB7⟩ := fu13 7 _ rfl (show (7 : Nat) ∈ _ from by decide); exact (do_sto sz_36 rfl rfl rfl rfl rfl hB7 rfl ⟨Nat.le_refl _, hi7⟩).mono (fun v w' h => ⟨h.1, h.2.1, hi7, h.2.2⟩)) ?_
        refine mx_nil (fun w7 E3' H1 HS => ?_)
        have E3 := (ext_drawn _).trans' E3'
        have F7 := F6.ext E3
        have hz3 := E3.size
        have hI7 := (HS.1 7 _ rfl).2
        have hI39 := (HS.1 39 _ rfl).2
        have hX7_39 := HS.2 7 _ 39 _ rfl rfl (show (7 : Nat) ≠ 39 from by decide)
        simp only at hI7
        simp only at hI39
        simp only at hX7_39
        have g7 := H1 7 _ rfl
        obtain ⟨⟨_, hv7, hb7, _, _⟩, hi7, hB7⟩ := g7; subst hv7; have hlb7 := hB7.lt
        have g39 := H1 39 _ rfl
        obtain ⟨bS39, rfl, hbbS39, hibS39, hBbS39⟩ := g39
        refine lx_value (want rfl) (as_int rfl) ?_
        refine lx_nil ?_
        refine wk_seq ?_
        refine wk_mix 13 (fun kS => match kS with | 6 => .any (fun I v w => ∃ b, v = .slice (some ⟨b, 0, none⟩) 2 2 ∧ w7.heap.size ≤ b ∧ (I.1 ≤ b ∧ b < I.2) ∧ Blk w b [.int .u8 a.1, .int .i64 a.2, .int .u8 z.1, .int .i64 z.2] 36) | 7 => .val (.tuple #[.agg #[.int .u8 (primV (strK i) [a, z]).1, .int .i64 (primV (strK i) [a, z]).2], .int .i64 0]) | 11 => .any (fun I v w => v = .pointer (some ⟨I.1, 0, none⟩) ∧ w7.heap.size ≤ I.1 ∧ I.1 < I.2 ∧ Blk w I.1 [.int .u8 0, .int .i64 0] 36) | 12 => .sto 9 52 (fun J u w => J.1 < J.2 ∧ Blk w J.1 u.cells.toList 36) | _ => .none) (by kernel_rfl) (by kernel_rfl) (by intro kS G hk; (try dsimp only at hk); (split at hk) <;> first | (cases hk; done) | (injection hk with hk; subst hk; exact ⟨by intro j hkj I v w w' hR hG; first | exact hG | (obtain ⟨b, h1, h2, hI, h3⟩ := hG; exact ⟨b, h1, h2, hI, h3.ext hR⟩) | (obtain ⟨h1, h2, hI, h3⟩ := hG; exact ⟨h1, h2, hI, h3.ext hR⟩), fun _ I v w w' hR hG => by first | exact hG | (obtain ⟨b, h1, h2, hI, h3⟩ := hG; exact ⟨b, h1, h2, hI, h3.fr hR (fun h => h.2 hI)⟩) | (obtain ⟨h1, h2, hI, h3⟩ := hG; exact ⟨h1, h2, hI, h3.fr hR (fun h => h.2 ⟨Nat.le_refl _, hI⟩)⟩)⟩)) (by intro kS s y G hk; (try dsimp only at hk); (split at hk) <;> first | (cases hk; done) | (injection hk with hk1 hk2 hk3; subst hk1; subst hk2; subst hk3; exact ⟨by kernel_rfl, by intro j hkj I v w w' hR hG; exact ⟨hG.1, hG.2.ext hR⟩, fun I v w w' hR hG => ⟨hG.1, hG.2.fr hR (fun h => h.2 ⟨Nat.le_refl _, hG.1⟩)⟩⟩)) ?_
        simp only [List.take_succ_cons, List.take_zero, List.take_nil, List.drop_succ_cons, List.drop_zero, List.drop_nil]
        refine mx_calm rfl (want rfl) (fun u14 eu14 fu14 => mv_slice (A1.at 5 rfl rfl)) ?_
        refine mx_calm rfl (want rfl) (fun u15 eu15 fu15 => mv_int hs1_6) ?_
        refine mx_calm rfl (want rfl) (fun u16 eu16 fu16 => rn_index _ Tryz.underlying54 sz_9 rfl rfl rfl (by omega)) ?_
        refine mx_calm rfl (want rfl) (fun u17 eu17 fu17 => rn_load1 ag_9 rfl (((((B3.ext EL1).ext E3).ext ((ext_drawn _).trans' eu17))).cell (0 + i * 1) (str_cell hi8))) ?_
        refine mx_calm rfl (want rfl) (fun u18 eu18 fu18 => rn_loadBlk ag_36 sz_36 (A1.at 2 rfl rfl) (((((((B1.ext Eb2).ext E1).ext E2).ext Eb3).ext EL1).ext E3).ext ((ext_drawn _).trans' eu18)) rfl rfl) ?_
        refine mx_calm rfl (want rfl) (fun u19 eu19 fu19 => rn_loadBlk ag_36 sz_36 (A1.at 3 rfl rfl) ((((((B2.ext E1).ext E2).ext Eb3).ext EL1).ext E3).ext ((ext_drawn _).trans' eu19)) rfl rfl) ?_
        refine mx_any rfl rfl (want rfl) (fun u20 eu20 fu20 => (do_newS2 (rn_bslice (xs := [.tmp 48, .tmp 49]) Tryz.underlying30 sz_36 ze_36 rfl (argsC (t_agg rfl) (argsC (t_agg rfl) args0)) (CL.cons rfl rfl (CL.cons rfl rfl CL.nil)) rfl (Nat.le_of_ble_eq_true rfl)) (show _ ≤ _ from (((ext_drawn _).trans' eu20)).size)).mono (fun v w' h => ⟨h.1, h.2⟩)) (fun I50 v50 => ?_)
        refine mx_val rfl (want rfl) (fun u21 eu21 fu21 => by obtain ⟨bB, rfl, _, _, hBB⟩ := fu21 50 _ rfl (show (50 : Nat) ∈ _ from by decide); exact do_call (ent_func cf_36 (argsC (t_string rfl) (argsC (t_slice rfl) args0))) (primTwo_ct hkk.1 hkk.2 haV hbV (primS_2 hkk.1 hkk.2 haV hbV) (vl_blk [a, z] (by simp) hBB)) (fun _ _ E h => ⟨E, h⟩)) ?_
        refine mx_calm rfl (want rfl) (fun u22 eu22 fu22 => mv_tuple rfl) ?_
        refine mx_calm rfl (want rfl) (fun u23 eu23 fu23 => rn_extract rfl rfl) ?_
        refine mx_calm rfl (want rfl) (fun u24 eu24 fu24 => rn_extract rfl rfl) ?_
        refine mx_any rfl rfl (want rfl) (fun u25 eu25 fu25 => (do_new3 (rn_alloc ze_36) (show _ ≤ _ from (((ext_drawn _).trans' eu25)).size)).mono (fun v w' h => ⟨h.1, h.2⟩)) (fun I9 v9 => ?_)
        refine mx_sto rfl rfl rfl rfl (want rfl) (fun u26 eu26 fu26 _ => by obtain ⟨rfl, hl9, hi9, hB9⟩ := fu26 9 _ rfl (show (9 : Nat) ∈ _ from by decide); exact (do_sto sz_36 rfl rfl rfl rfl rfl hB9 rfl ⟨Nat.le_refl _, hi9⟩).mono (fun v w' h => ⟨h.1, h.2.1, hi9, h.2.2⟩)) ?_
        refine mx_nil (fun w8 E4' H2 HS => ?_)
        have E4 := (ext_drawn _).trans' E4'
        have F8 := F7.ext E4
        have hz4 := E4.size
        have hI9 := (HS.1 9 _ rfl).2
        have hI50 := (HS.1 50 _ rfl).2
        have hX9_50 := HS.2 9 _ 50 _ rfl rfl (show (9 : Nat) ≠ 50 from by decide)
        simp only at hI9
        simp only at hI50
        simp only at hX9_50
        have g9 := H2 9 _ rfl
        obtain ⟨⟨_, hv9, hb9, _, _⟩, hi9, hB9⟩ := g9; subst hv9; have hlb9 := hB9.lt
        have g50 := H2 50 _ rfl
        obtain ⟨bS50, rfl, hbbS50, hibS50, hBbS50⟩ := g50
        refine lx_value (want rfl) (as_int rfl) ?_
        refine lx_nil ?_
        refine wk_seq ?_
        refine wk_seq ?_
        refine wk_region ?_
        refine lx_value (want rfl) (mv_int rfl) ?_
        refine lx_value (want rfl) (rn_neq rfl rfl) ?_
        refine lx_dec_f (by decide) ?_
        refine lx_value (want rfl) (mv_bool rfl) ?_
        refine lx_value (want_if (j := 2) (d := 56) (x := false) (y := false) rfl rfl (by decide) rfl) (mv_int rfl) ?_
        refine lx_value (want_if (j := 2) (d := 56) (x := false) (y := false) rfl rfl (by decide) rfl) (rn_neq rfl rfl) ?_
        refine lx_dec_f (by decide) ?_
        refine lx_value (want rfl) (pick_f rfl rfl) ?_
        refine lx_value (want rfl) (mv_bool rfl) ?_
        refine lx_value (want_if (j := 6) (d := 60) (x := false) (y := false) rfl rfl (by decide) rfl) (rn_loadBlk ag_36 sz_36 rfl (hB7.ext E4) rfl rfl) ?_
        refine lx_value (want_if (j := 6) (d := 60) (x := false) (y := false) rfl rfl (by decide) rfl) (rn_loadBlk ag_36 sz_36 rfl hB9 rfl rfl) ?_
        refine lx_value (want_if (j := 6) (d := 60) (x := false) (y := false) rfl rfl (by decide) rfl) (rn_cmpS (t_agg rfl) (t_agg rfl) (gneq_36 _ _ _ _) (neq_36 _ _ _ _)) ?_
        refine lx_dec_f ((fun h => h ⟨rfl, rfl⟩)) ?_
        refine lx_value (want rfl) (pick_f rfl rfl) ?_
        refine lx_nil ?_
        refine wk_cond_f rfl ?_
        refine wk_skip ?_
        refine wk_seq ?_
        refine wk_region ?_
        refine lx_value (want rfl) (rn_loadBlk ag_36 sz_36 (A1.at 2 rfl rfl) (((((((B1.ext Eb2).ext E1).ext E2).ext Eb3).ext EL1).ext E3).ext E4) rfl rfl) ?_
        refine lx_new (want rfl) (rn_alloc ze_36) ?_
        intro b4 w9 hb4 Eb4 B4 hlb4
        have F9 := F8.ext Eb4
        have hzb4 := Eb4.size
        refine lx_set (want rfl) sz_36 rfl (t_agg rfl) rfl rfl rfl B4 (Nat.le_of_ble_eq_true rfl) ?_
        intro w10 Es1 Bs1
        have F10 := F9.set Es1 (by omega)
        have hzs1 := Es1.size
        refine lx_nil ?_
        refine wk_seq ?_
        refine wk_block ?_
        refine wk_seq ?_
        refine wk_region ?_
        refine lx_value (want rfl) (rn_fieldAddr fa_36_0 (A1.at 2 rfl rfl)) ?_
        refine lx_value (want rfl) (rn_load1Blk ag_5 rfl (((((((((B1.ext Eb2).ext E1).ext E2).ext Eb3).ext EL1).ext E3).ext E4).ext Eb4).ne Es1 (by omega)) rfl) ?_
        refine lx_value (want rfl) (rn_eql rfl rfl) ?_
        refine lx_dec (fun ha0 => ?_) (fun ha0 => ?_)
        ·
          have hpr : primV (strK i) [a, z] = (0, 0) := due_h (.inl ha0)
          refine lx_value (want rfl) (mv_bool rfl) ?_
          refine lx_skip (want_if (j := 3) (d := 83) (x := false) (y := true) rfl rfl (by decide) rfl) ?_
          refine lx_skip (want_if (j := 3) (d := 83) (x := false) (y := true) rfl rfl (by decide) rfl) ?_
          refine lx_skip (want_if (j := 3) (d := 83) (x := false) (y := true) rfl rfl (by decide) rfl) ?_
          refine lx_value (want rfl) (pick_t rfl rfl) ?_
          refine lx_value (want rfl) (as_bool rfl) ?_
          refine lx_nil ?_
          refine wk_cond_t rfl ?_
          refine wk_region ?_
          refine lx_value (want rfl) (rn_build0  (fun w => bd_36  w)) ?_
          refine lx_set (want rfl) sz_36 rfl (t_agg rfl) rfl rfl rfl Bs1 (Nat.le_of_ble_eq_true rfl) ?_
          intro w11 Es2 Bs2
          have F11 := F10.set Es2 (by omega)
          have hzs2 := Es2.size
          refine lx_nil ?_
          refine wk_seq ?_
          refine wk_region ?_
          refine lx_value (want rfl) (rn_loadBlk ag_36 sz_36 rfl ((((hB7.ext E4).ext Eb4).ne Es1 (by omega)).ne Es2 (by omega)) rfl rfl) ?_
          refine lx_value (want rfl) (rn_loadBlk ag_36 sz_36 rfl Bs2 rfl rfl) ?_
          refine lx_value (want rfl) (rn_cmpS (t_agg rfl) (t_agg rfl) (gneq_36 _ _ _ _) (neq_36 _ _ _ _)) ?_
          refine lx_dec_f ((fun h => h ⟨by rw [hpr], by rw [hpr]⟩)) ?_
          refine lx_nil ?_
          refine wk_cond_f rfl ?_
          refine wk_skip ?_
          refine wk_region ?_
          refine lx_value (want rfl) (mv_int hs1_6) ?_
          refine lx_value (want rfl) (rn_add rfl rfl (by omega)) ?_
          refine lx_value (want rfl) (as_int rfl) ?_
          refine lx_nil ?_
          exact ⟨rfl, (((((((((((((((((((((((((((((((((((((((((((((((((((((((((((((((A1.up rfl _).up rfl _).up rfl _).up rfl _).up rfl _).up rfl _).up rfl _).up rfl _).up rfl _).up rfl _).up rfl _).up rfl _).up rfl _).up rfl _).up rfl _).up rfl _).none _).up rfl _).up rfl _).up rfl _).up rfl _).up rfl _).up rfl _).up rfl _).up rfl _).up rfl _).up rfl _).up rfl _).up rfl _).up rfl _).none _).up rfl _).up rfl _).up rfl _).up rfl _).up rfl _).up rfl _).up rfl _).up rfl _).up rfl _).up rfl _).up rfl _).up rfl _).up rfl _).up rfl _).none _).up rfl _).up rfl _).up rfl _).up rfl _).up rfl _).up rfl _).up rfl _).up rfl _).up rfl _).up rfl _).none _).up rfl _).up rfl _).up rfl _).up rfl _).up rfl _).up rfl _), (Fr.trans (Fr.trans (Fr.ext (Fr.ext (Fr.ext EL1 E3) E4) Eb4) Es1 (fun i hi1 h => (absurd hi1 (by omega)))) Es2 (fun i hi1 h => (absurd hi1 (by omega)))), _, (by omega), i + 1, rfl, rfl, by omega⟩
        ·
          refine lx_value (want rfl) (mv_bool rfl) ?_
          refine lx_value (want_if (j := 3) (d := 83) (x := false) (y := false) rfl rfl (by decide) rfl) (rn_fieldAddr fa_36_0 (A1.at 3 rfl rfl)) ?_
          refine lx_value (want_if (j := 3) (d := 83) (x := false) (y := false) rfl rfl (by decide) rfl) (rn_load1Blk ag_5 rfl ((((((((B2.ext E1).ext E2).ext Eb3).ext EL1).ext E3).ext E4).ext Eb4).ne Es1 (by omega)) rfl) ?_
          refine lx_value (want_if (j := 3) (d := 83) (x := false) (y := false) rfl rfl (by decide) rfl) (rn_eql rfl rfl) ?_
          refine lx_dec (fun hb0 => ?_) (fun hb0 => ?_)
          ·
            have hpr : primV (strK i) [a, z] = (0, 0) := due_h (.inr hb0)
            refine lx_value (want rfl) (pick_f rfl rfl) ?_
            refine lx_value (want rfl) (as_bool rfl) ?_
            refine lx_nil ?_
            refine wk_cond_t rfl ?_
            refine wk_region ?_
            refine lx_value (want rfl) (rn_build0  (fun w => bd_36  w)) ?_
            refine lx_set (want rfl) sz_36 rfl (t_agg rfl) rfl rfl rfl Bs1 (Nat.le_of_ble_eq_true rfl) ?_
            intro w11 Es3 Bs3
            have F12 := F10.set Es3 (by omega)
            have hzs3 := Es3.size
            refine lx_nil ?_
            refine wk_seq ?_
            refine wk_region ?_
            refine lx_value (want rfl) (rn_loadBlk ag_36 sz_36 rfl ((((hB7.ext E4).ext Eb4).ne Es1 (by omega)).ne Es3 (by omega)) rfl rfl) ?_
            refine lx_value (want rfl) (rn_loadBlk ag_36 sz_36 rfl Bs3 rfl rfl) ?_
            refine lx_value (want rfl) (rn_cmpS (t_agg rfl) (t_agg rfl) (gneq_36 _ _ _ _) (neq_36 _ _ _ _)) ?_
            refine lx_dec_f ((fun h => h ⟨by rw [hpr], by rw [hpr]⟩)) ?_
            refine lx_nil ?_
            refine wk_cond_f rfl ?_
            refine wk_skip ?_
            refine wk_region ?_
            refine lx_value (want rfl) (mv_int hs1_6) ?_
            refine lx_value (want rfl) (rn_add rfl rfl (by omega)) ?_
            refine lx_value (want rfl) (as_int rfl) ?_
            refine lx_nil ?_
            exact ⟨rfl, (((((((((((((((((((((((((((((((((((((((((((((((((((((((((((((((A1.up rfl _).up rfl _).up rfl _).up rfl _).up rfl _).up rfl _).up rfl _).up rfl _).up rfl _).up rfl _).up rfl _).up rfl _).up rfl _).up rfl _).up rfl _).up rfl _).none _).up rfl _).up rfl _).up rfl _).up rfl _).up rfl _).up rfl _).up rfl _).up rfl _).up rfl _).up rfl _).up rfl _).up rfl _).up rfl _).none _).up rfl _).up rfl _).up rfl _).up rfl _).up rfl _).up rfl _).up rfl _).up rfl _).up rfl _).up rfl _).up rfl _).up rfl _).up rfl _).up rfl _).none _).up rfl _).up rfl _).up rfl _).up rfl _).up rfl _).up rfl _).up rfl _).up rfl _).up rfl _).up rfl _).none _).up rfl _).up rfl _).up rfl _).up rfl _).up rfl _).up rfl _), (Fr.trans (Fr.trans (Fr.ext (Fr.ext (Fr.ext EL1 E3) E4) Eb4) Es1 (fun i hi1 h => (absurd hi1 (by omega)))) Es3 (fun i hi1 h => (absurd hi1 (by omega)))), _, (by omega), i + 1, rfl, rfl, by omega⟩
          ·
            refine lx_value (want rfl) (pick_f rfl rfl) ?_
            refine lx_value (want rfl) (as_bool rfl) ?_
            refine lx_nil ?_
            refine wk_cond_f rfl ?_
            refine wk_seq ?_
            refine wk_region ?_
            refine lx_value (want rfl) (rn_fieldAddr fa_36_0 (A1.at 2 rfl rfl)) ?_
            refine lx_value (want rfl) (rn_load1Blk ag_5 rfl (((((((((B1.ext Eb2).ext E1).ext E2).ext Eb3).ext EL1).ext E3).ext E4).ext Eb4).ne Es1 (by omega)) rfl) ?_
            refine lx_value (want rfl) (rn_eql rfl rfl) ?_
            refine lx_dec (fun ha5 => ?_) (fun ha5 => ?_)
            ·
              have hpr : primV (strK i) [a, z] = a := due_a ha0 hb0 ha5
              refine lx_value (want rfl) (as_bool rfl) ?_
              refine lx_nil ?_
              refine wk_cond_t rfl ?_
              refine wk_skip ?_
              refine wk_seq ?_
              refine wk_region ?_
              refine lx_value (want rfl) (rn_loadBlk ag_36 sz_36 rfl (((hB7.ext E4).ext Eb4).ne Es1 (by omega)) rfl rfl) ?_
              refine lx_value (want rfl) (rn_loadBlk ag_36 sz_36 rfl Bs1 rfl rfl) ?_
              refine lx_value (want rfl) (rn_cmpS (t_agg rfl) (t_agg rfl) (gneq_36 _ _ _ _) (neq_36 _ _ _ _)) ?_
              refine lx_dec_f ((fun h => h ⟨by rw [hpr], by rw [hpr]⟩)) ?_
              refine lx_nil ?_
              refine wk_cond_f rfl ?_
              refine wk_skip ?_
              refine wk_region ?_
              refine lx_value (want rfl) (mv_int hs1_6) ?_
              refine lx_value (want rfl) (rn_add rfl rfl (by omega)) ?_
              refine lx_value (want rfl) (as_int rfl) ?_
              refine lx_nil ?_
              exact ⟨rfl, (((((((((((((((((((((((((((((((((((((((((((((((((((((((((((((((((A1.up rfl _).up rfl _).up rfl _).up rfl _).up rfl _).up rfl _).up rfl _).up rfl _).up rfl _).up rfl _).up rfl _).up rfl _).up rfl _).up rfl _).up rfl _).up rfl _).none _).up rfl _).up rfl _).up rfl _).up rfl _).up rfl _).up rfl _).up rfl _).up rfl _).up rfl _).up rfl _).up rfl _).up rfl _).up rfl _).none _).up rfl _).up rfl _).up rfl _).up rfl _).up rfl _).up rfl _).up rfl _).up rfl _).up rfl _).up rfl _).up rfl _).up rfl _).up rfl _).up rfl _).none _).up rfl _).up rfl _).up rfl _).up rfl _).up rfl _).up rfl _).up rfl _).up rfl _).up rfl _).up rfl _).up rfl _).up rfl _).up rfl _).up rfl _).up rfl _).up rfl _).up rfl _).up rfl _).up rfl _), (Fr.trans (Fr.ext (Fr.ext (Fr.ext EL1 E3) E4) Eb4) Es1 (fun i hi1 h => (absurd hi1 (by omega)))), _, (by omega), i + 1, rfl, rfl, by omega⟩
            ·
              refine lx_value (want rfl) (as_bool rfl) ?_
              refine lx_nil ?_
              refine wk_cond_f rfl ?_
              refine wk_seq ?_
              refine wk_region ?_
              refine lx_value (want rfl) (rn_fieldAddr fa_36_0 (A1.at 3 rfl rfl)) ?_
              refine lx_value (want rfl) (rn_load1Blk ag_5 rfl ((((((((B2.ext E1).ext E2).ext Eb3).ext EL1).ext E3).ext E4).ext Eb4).ne Es1 (by omega)) rfl) ?_
              refine lx_value (want rfl) (rn_eql rfl rfl) ?_
              refine lx_dec (fun hb5 => ?_) (fun hb5 => ?_)
              ·
                have hpr : primV (strK i) [a, z] = z := due_b ha0 hb0 ha5 hb5
                refine lx_value (want rfl) (as_bool rfl) ?_
                refine lx_nil ?_
                refine wk_cond_t rfl ?_
                refine wk_region ?_
                refine lx_value (want rfl) (rn_loadBlk ag_36 sz_36 (A1.at 3 rfl rfl) ((((((((B2.ext E1).ext E2).ext Eb3).ext EL1).ext E3).ext E4).ext Eb4).ne Es1 (by omega)) rfl rfl) ?_
                refine lx_set (want rfl) sz_36 rfl (t_agg rfl) rfl rfl rfl Bs1 (Nat.le_of_ble_eq_true rfl) ?_
                intro w11 Es4 Bs4
                have F13 := F10.set Es4 (by omega)
                have hzs4 := Es4.size
                refine lx_nil ?_
                refine wk_seq ?_
                refine wk_region ?_
                refine lx_value (want rfl) (rn_loadBlk ag_36 sz_36 rfl ((((hB7.ext E4).ext Eb4).ne Es1 (by omega)).ne Es4 (by omega)) rfl rfl) ?_
                refine lx_value (want rfl) (rn_loadBlk ag_36 sz_36 rfl Bs4 rfl rfl) ?_
                refine lx_value (want rfl) (rn_cmpS (t_agg rfl) (t_agg rfl) (gneq_36 _ _ _ _) (neq_36 _ _ _ _)) ?_
                refine lx_dec_f ((fun h => h ⟨by rw [hpr], by rw [hpr]⟩)) ?_
                refine lx_nil ?_
                refine wk_cond_f rfl ?_
                refine wk_skip ?_
                refine wk_region ?_
                refine lx_value (want rfl) (mv_int hs1_6) ?_
                refine lx_value (want rfl) (rn_add rfl rfl (by omega)) ?_
                refine lx_value (want rfl) (as_int rfl) ?_
                refine lx_nil ?_
                exact ⟨rfl, (((((((((((((((((((((((((((((((((((((((((((((((((((((((((((((((((((((((A1.up rfl _).up rfl _).up rfl _).up rfl _).up rfl _).up rfl _).up rfl _).up rfl _).up rfl _).up rfl _).up rfl _).up rfl _).up rfl _).up rfl _).up rfl _).up rfl _).none _).up rfl _).up rfl _).up rfl _).up rfl _).up rfl _).up rfl _).up rfl _).up rfl _).up rfl _).up rfl _).up rfl _).up rfl _).up rfl _).none _).up rfl _).up rfl _).up rfl _).up rfl _).up rfl _).up rfl _).up rfl _).up rfl _).up rfl _).up rfl _).up rfl _).up rfl _).up rfl _).up rfl _).none _).up rfl _).up rfl _).up rfl _).up rfl _).up rfl _).up rfl _).up rfl _).up rfl _).up rfl _).up rfl _).up rfl _).up rfl _).up rfl _).up rfl _).up rfl _).up rfl _).up rfl _).up rfl _).none _).up rfl _).up rfl _).up rfl _).up rfl _).up rfl _).up rfl _), (Fr.trans (Fr.trans (Fr.ext (Fr.ext (Fr.ext EL1 E3) E4) Eb4) Es1 (fun i hi1 h => (absurd hi1 (by omega)))) Es4 (fun i hi1 h => (absurd hi1 (by omega)))), _, (by omega), i + 1, rfl, rfl, by omega⟩
              ·
                refine lx_value (want rfl) (as_bool rfl) ?_
                refine lx_nil ?_
                refine wk_cond_f rfl ?_
                refine wk_seq ?_
                refine wk_seq ?_
                refine wk_region ?_
                refine lx_value (want rfl) (rn_fieldAddr fa_36_0 rfl) ?_
                refine lx_value (want rfl) (rn_load1Blk ag_5 rfl (((hB7.ext E4).ext Eb4).ne Es1 (by omega)) rfl) ?_
                refine lx_value (want rfl) (rn_neq rfl rfl) ?_
                refine lx_dec (fun hk1 => ?_) (fun hk1 => ?_)
                ·
                  refine lx_value (want rfl) (mv_bool rfl) ?_
                  refine lx_value (want_if (j := 3) (d := 69) (x := true) (y := true) rfl rfl (by decide) rfl) (rn_fieldAddr fa_36_0 rfl) ?_
                  refine lx_value (want_if (j := 3) (d := 69) (x := true) (y := true) rfl rfl (by decide) rfl) (rn_load1Blk ag_5 rfl (((hB7.ext E4).ext Eb4).ne Es1 (by omega)) rfl) ?_
                  refine lx_value (want_if (j := 3) (d := 69) (x := true) (y := true) rfl rfl (by decide) rfl) (rn_neq rfl rfl) ?_
                  refine lx_dec (fun hk2 => ?_) (fun hk2 => ?_)
                  ·
                    refine lx_value (want rfl) (pick_t rfl rfl) ?_
                    refine lx_value (want rfl) (mv_bool rfl) ?_
                    refine lx_value (want_if (j := 8) (d := 74) (x := true) (y := true) rfl rfl (by decide) rfl) (rn_fieldAddr fa_36_0 rfl) ?_
                    refine lx_value (want_if (j := 8) (d := 74) (x := true) (y := true) rfl rfl (by decide) rfl) (rn_load1Blk ag_5 rfl (((hB7.ext E4).ext Eb4).ne Es1 (by omega)) rfl) ?_
                    refine lx_value (want_if (j := 8) (d := 74) (x := true) (y := true) rfl rfl (by decide) rfl) (rn_neq rfl rfl) ?_
                    refine lx_dec_f ((fun g => (prim_kind (k := strK i) (due_n ha0 hb0 ha5 hb5)).elim hk1 (fun h => h.elim hk2 g))) ?_
                    refine lx_value (want rfl) (pick_t rfl rfl) ?_
                    refine lx_nil ?_
                    refine wk_cond_f rfl ?_
                    refine wk_skip ?_
                    refine wk_exit ?_
                    refine wk_region ?_
                    refine lx_value (want rfl) (mv_int hs1_6) ?_
                    refine lx_value (want rfl) (rn_add rfl rfl (by omega)) ?_
                    refine lx_value (want rfl) (as_int rfl) ?_
                    refine lx_nil ?_
                    exact ⟨rfl, (((((((((((((((((((((((((((((((((((((((((((((((((((((((((((((((((((((((((((((((A1.up rfl _).up rfl _).up rfl _).up rfl _).up rfl _).up rfl _).up rfl _).up rfl _).up rfl _).up rfl _).up rfl _).up rfl _).up rfl _).up rfl _).up rfl _).up rfl _).none _).up rfl _).up rfl _).up rfl _).up rfl _).up rfl _).up rfl _).up rfl _).up rfl _).up rfl _).up rfl _).up rfl _).up rfl _).up rfl _).none _).up rfl _).up rfl _).up rfl _).up rfl _).up rfl _).up rfl _).up rfl _).up rfl _).up rfl _).up rfl _).up rfl _).up rfl _).up rfl _).up rfl _).none _).up rfl _).up rfl _).up rfl _).up rfl _).up rfl _).up rfl _).up rfl _).up rfl _).up rfl _).up rfl _).up rfl _).up rfl _).up rfl _).up rfl _).up rfl _).up rfl _).up rfl _).up rfl _).up rfl _).up rfl _).up rfl _).up rfl _).up rfl _).up rfl _).up rfl _).up rfl _).up rfl _).up rfl _).up rfl _).up rfl _).up rfl _).up rfl _).up rfl _), (Fr.trans (Fr.ext (Fr.ext (Fr.ext EL1 E3) E4) Eb4) Es1 (fun i hi1 h => (absurd hi1 (by omega)))), _, (by omega), i + 1, rfl, rfl, by omega⟩
                  ·
                    refine lx_value (want rfl) (pick_t rfl rfl) ?_
                    refine lx_value (want rfl) (mv_bool rfl) ?_
                    refine lx_skip (want_if (j := 8) (d := 74) (x := true) (y := false) rfl rfl (by decide) rfl) ?_
                    refine lx_skip (want_if (j := 8) (d := 74) (x := true) (y := false) rfl rfl (by decide) rfl) ?_
                    refine lx_skip (want_if (j := 8) (d := 74) (x := true) (y := false) rfl rfl (by decide) rfl) ?_
                    refine lx_value (want rfl) (pick_f rfl rfl) ?_
                    refine lx_nil ?_
                    refine wk_cond_f rfl ?_
                    refine wk_skip ?_
                    refine wk_exit ?_
                    refine wk_region ?_
                    refine lx_value (want rfl) (mv_int hs1_6) ?_
                    refine lx_value (want rfl) (rn_add rfl rfl (by omega)) ?_
                    refine lx_value (want rfl) (as_int rfl) ?_
                    refine lx_nil ?_
                    exact ⟨rfl, (((((((((((((((((((((((((((((((((((((((((((((((((((((((((((((((((((((((((((((((A1.up rfl _).up rfl _).up rfl _).up rfl _).up rfl _).up rfl _).up rfl _).up rfl _).up rfl _).up rfl _).up rfl _).up rfl _).up rfl _).up rfl _).up rfl _).up rfl _).none _).up rfl _).up rfl _).up rfl _).up rfl _).up rfl _).up rfl _).up rfl _).up rfl _).up rfl _).up rfl _).up rfl _).up rfl _).up rfl _).none _).up rfl _).up rfl _).up rfl _).up rfl _).up rfl _).up rfl _).up rfl _).up rfl _).up rfl _).up rfl _).up rfl _).up rfl _).up rfl _).up rfl _).none _).up rfl _).up rfl _).up rfl _).up rfl _).up rfl _).up rfl _).up rfl _).up rfl _).up rfl _).up rfl _).up rfl _).up rfl _).up rfl _).up rfl _).up rfl _).up rfl _).up rfl _).up rfl _).up rfl _).up rfl _).up rfl _).up rfl _).up rfl _).up rfl _).up rfl _).up rfl _).up rfl _).up rfl _).up rfl _).up rfl _).up rfl _).up rfl _).up rfl _), (Fr.trans (Fr.ext (Fr.ext (Fr.ext EL1 E3) E4) Eb4) Es1 (fun i hi1 h => (absurd hi1 (by omega)))), _, (by omega), i + 1, rfl, rfl, by omega⟩
                ·
                  refine lx_value (want rfl) (mv_bool rfl) ?_
                  refine lx_skip (want_if (j := 3) (d := 69) (x := true) (y := false) rfl rfl (by decide) rfl) ?_
                  refine lx_skip (want_if (j := 3) (d := 69) (x := true) (y := false) rfl rfl (by decide) rfl) ?_
                  refine lx_skip (want_if (j := 3) (d := 69) (x := true) (y := false) rfl rfl (by decide) rfl) ?_
                  refine lx_value (want rfl) (pick_f rfl rfl) ?_
                  refine lx_value (want rfl) (mv_bool rfl) ?_
                  refine lx_skip (want_if (j := 8) (d := 74) (x := true) (y := false) rfl rfl (by decide) rfl) ?_
                  refine lx_skip (want_if (j := 8) (d := 74) (x := true) (y := false) rfl rfl (by decide) rfl) ?_
                  refine lx_skip (want_if (j := 8) (d := 74) (x := true) (y := false) rfl rfl (by decide) rfl) ?_
                  refine lx_value (want rfl) (pick_f rfl rfl) ?_
                  refine lx_nil ?_
                  refine wk_cond_f rfl ?_
                  refine wk_skip ?_
                  refine wk_exit ?_
                  refine wk_region ?_
                  refine lx_value (want rfl) (mv_int hs1_6) ?_
                  refine lx_value (want rfl) (rn_add rfl rfl (by omega)) ?_
                  refine lx_value (want rfl) (as_int rfl) ?_
                  refine lx_nil ?_
                  exact ⟨rfl, (((((((((((((((((((((((((((((((((((((((((((((((((((((((((((((((((((((((((((((((A1.up rfl _).up rfl _).up rfl _).up rfl _).up rfl _).up rfl _).up rfl _).up rfl _).up rfl _).up rfl _).up rfl _).up rfl _).up rfl _).up rfl _).up rfl _).up rfl _).none _).up rfl _).up rfl _).up rfl _).up rfl _).up rfl _).up rfl _).up rfl _).up rfl _).up rfl _).up rfl _).up rfl _).up rfl _).up rfl _).none _).up rfl _).up rfl _).up rfl _).up rfl _).up rfl _).up rfl _).up rfl _).up rfl _).up rfl _).up rfl _).up rfl _).up rfl _).up rfl _).up rfl _).none _).up rfl _).up rfl _).up rfl _).up rfl _).up rfl _).up rfl _).up rfl _).up rfl _).up rfl _).up rfl _).up rfl _).up rfl _).up rfl _).up rfl _).up rfl _).up rfl _).up rfl _).up rfl _).up rfl _).up rfl _).up rfl _).up rfl _).up rfl _).up rfl _).up rfl _).up rfl _).up rfl _).up rfl _).up rfl _).up rfl _).up rfl _).up rfl _).up rfl _), (Fr.trans (Fr.ext (Fr.ext (Fr.ext EL1 E3) E4) Eb4) Es1 (fun i hi1 h => (absurd hi1 (by omega)))), _, (by omega), i + 1, rfl, rfl, by omega⟩
      ·
        refine lx_nil ?_
        refine wk_cond_f rfl ?_
        refine wk_exit ?_
        refine wk_seq ?_
        refine wk_region ?_
        refine lx_value (want rfl) (rn_loadBlk ag_36 sz_36 (A1.at 2 rfl rfl) (((((B1.ext Eb2).ext E1).ext E2).ext Eb3).ext EL1) rfl rfl) ?_
        refine lx_value (want rfl) (rn_loadBlk ag_36 sz_36 (A1.at 3 rfl rfl) ((((B2.ext E1).ext E2).ext Eb3).ext EL1) rfl rfl) ?_
        refine lx_newS (want rfl) (rn_bslice (xs := [.tmp 102, .tmp 103]) Tryz.underlying30 sz_36 ze_36 rfl (argsC (t_agg rfl) (argsC (t_agg rfl) args0)) (CL.cons rfl rfl (CL.cons rfl rfl CL.nil)) rfl (Nat.le_of_ble_eq_true rfl)) ?_
        intro b5 w7 hb5 Eb5 B5 hlb5
        have F14 := F6.ext Eb5
        have hzb5 := Eb5.size
        refine lx_call (want rfl) (ent_func cf_36 (argsC (t_string rfl) (argsC (t_slice rfl) args0))) ((primTwo_ct (k := 3) (by decide) rfl haV hbV (primS_2 (by decide) rfl haV hbV) (vl_blk [a, z] (by simp) B5))) ?_
        rintro _ w8 E5 rfl
        have F15 := F14.ext E5
        have hz5 := E5.size
        refine lx_value (want rfl) (mv_tuple rfl) ?_
        refine lx_value (want rfl) (rn_extract rfl rfl) ?_
        refine lx_value (want rfl) (rn_extract rfl rfl) ?_
        refine lx_new (want rfl) (rn_alloc ze_36) ?_
        intro b6 w9 hb6 Eb6 B6 hlb6
        have F16 := F15.ext Eb6
        have hzb6 := Eb6.size
        refine lx_set (want rfl) sz_36 rfl (t_agg rfl) rfl rfl rfl B6 (Nat.le_of_ble_eq_true rfl) ?_
        intro w10 Es5 Bs5
        have F17 := F16.set Es5 (by omega)
        have hzs5 := Es5.size
        refine lx_value (want rfl) (as_int rfl) ?_
        refine lx_nil ?_
        refine wk_seq ?_
        refine wk_region ?_
        refine lx_value (want rfl) (rn_loadBlk ag_36 sz_36 (A1.at 2 rfl rfl) (((((((((B1.ext Eb2).ext E1).ext E2).ext Eb3).ext EL1).ext Eb5).ext E5).ext Eb6).ne Es5 (by omega)) rfl rfl) ?_
        refine lx_value (want rfl) (rn_loadBlk ag_36 sz_36 (A1.at 3 rfl rfl) ((((((((B2.ext E1).ext E2).ext Eb3).ext EL1).ext Eb5).ext E5).ext Eb6).ne Es5 (by omega)) rfl rfl) ?_
        refine lx_newS (want rfl) (rn_bslice (xs := [.tmp 109, .tmp 110]) Tryz.underlying30 sz_36 ze_36 rfl (argsC (t_agg rfl) (argsC (t_agg rfl) args0)) (CL.cons rfl rfl (CL.cons rfl rfl CL.nil)) rfl (Nat.le_of_ble_eq_true rfl)) ?_
        intro b7 w11 hb7 Eb7 B7 hlb7
        have F18 := F17.ext Eb7
        have hzb7 := Eb7.size
        refine lx_call (want rfl) (ent_func cf_36 (argsC (t_string rfl) (argsC (t_slice rfl) args0))) ((primTwo_ct (k := 4) (by decide) rfl haV hbV (primS_2 (by decide) rfl haV hbV) (vl_blk [a, z] (by simp) B7))) ?_
        rintro _ w12 E6 rfl
        have F19 := F18.ext E6
        have hz6 := E6.size
        refine lx_value (want rfl) (mv_tuple rfl) ?_
        refine lx_value (want rfl) (rn_extract rfl rfl) ?_
        refine lx_value (want rfl) (rn_extract rfl rfl) ?_
        refine lx_new (want rfl) (rn_alloc ze_36) ?_
        intro b8 w13 hb8 Eb8 B8 hlb8
        have F20 := F19.ext Eb8
        have hzb8 := Eb8.size
        refine lx_set (want rfl) sz_36 rfl (t_agg rfl) rfl rfl rfl B8 (Nat.le_of_ble_eq_true rfl) ?_
        intro w14 Es6 Bs6
        have F21 := F20.set Es6 (by omega)
        have hzs6 := Es6.size
        refine lx_value (want rfl) (as_int rfl) ?_
        refine lx_nil ?_
        refine wk_seq ?_
        refine wk_seq ?_
        refine wk_region ?_
        refine lx_value (want rfl) (mv_int rfl) ?_
        refine lx_value (want rfl) (rn_neq rfl rfl) ?_
        refine lx_dec_f (by decide) ?_
        refine lx_value (want rfl) (mv_bool rfl) ?_
        refine lx_value (want_if (j := 2) (d := 117) (x := false) (y := false) rfl rfl (by decide) rfl) (mv_int rfl) ?_
        refine lx_value (want_if (j := 2) (d := 117) (x := false) (y := false) rfl rfl (by decide) rfl) (rn_neq rfl rfl) ?_
        refine lx_dec_f (by decide) ?_
        refine lx_value (want rfl) (pick_f rfl rfl) ?_
        refine lx_value (want rfl) (mv_bool rfl) ?_
        refine lx_value (want_if (j := 6) (d := 121) (x := false) (y := false) rfl rfl (by decide) rfl) (rn_fieldAddr fa_36_0 rfl) ?_
        refine lx_value (want_if (j := 6) (d := 121) (x := false) (y := false) rfl rfl (by decide) rfl) (rn_load1Blk ag_5 rfl ((((Bs5.ext Eb7).ext E6).ext Eb8).ne Es6 (by omega)) rfl) ?_
        refine lx_value (want_if (j := 6) (d := 121) (x := false) (y := false) rfl rfl (by decide) rfl) (rn_eql rfl rfl) ?_
        refine lx_dec (fun hd1 => ?_) (fun hd1 => ?_)
        ·
          have hdm := div_mod haV hbV hd1
          have hbd := div_bd haV hbV hd1
          refine lx_value (want_if (j := 6) (d := 121) (x := false) (y := false) rfl rfl (by decide) rfl) (mv_bool rfl) ?_
          refine lx_value (want_if (j := 10) (d := 125) (x := true) (y := true) rfl rfl (by decide) rfl) (rn_fieldAddr fa_36_1 rfl) ?_
          refine lx_value (want_if (j := 10) (d := 125) (x := true) (y := true) rfl rfl (by decide) rfl) (rn_load1Blk ag_3 rfl ((((Bs5.ext Eb7).ext E6).ext Eb8).ne Es6 (by omega)) rfl) ?_
          refine lx_value (want_if (j := 10) (d := 125) (x := true) (y := true) rfl rfl (by decide) rfl) (rn_fieldAddr fa_36_1 (A1.at 3 rfl rfl)) ?_
          refine lx_value (want_if (j := 10) (d := 125) (x := true) (y := true) rfl rfl (by decide) rfl) (rn_load1Blk ag_3 rfl ((((((((((((B2.ext E1).ext E2).ext Eb3).ext EL1).ext Eb5).ext E5).ext Eb6).ne Es5 (by omega)).ext Eb7).ext E6).ext Eb8).ne Es6 (by omega)) rfl) ?_
          refine lx_value (want_if (j := 10) (d := 125) (x := true) (y := true) rfl rfl (by decide) rfl) (rn_mul rfl rfl (by omega)) ?_
          refine lx_value (want_if (j := 10) (d := 125) (x := true) (y := true) rfl rfl (by decide) rfl) (rn_fieldAddr fa_36_1 rfl) ?_
          refine lx_value (want_if (j := 10) (d := 125) (x := true) (y := true) rfl rfl (by decide) rfl) (rn_load1Blk ag_3 rfl Bs6 rfl) ?_
          refine lx_value (want_if (j := 10) (d := 125) (x := true) (y := true) rfl rfl (by decide) rfl) (rn_add rfl rfl (by omega)) ?_
          refine lx_value (want_if (j := 10) (d := 125) (x := true) (y := true) rfl rfl (by decide) rfl) (rn_fieldAddr fa_36_1 (A1.at 2 rfl rfl)) ?_
          refine lx_value (want_if (j := 10) (d := 125) (x := true) (y := true) rfl rfl (by decide) rfl) (rn_load1Blk ag_3 rfl (((((((((((((B1.ext Eb2).ext E1).ext E2).ext Eb3).ext EL1).ext Eb5).ext E5).ext Eb6).ne Es5 (by omega)).ext Eb7).ext E6).ext Eb8).ne Es6 (by omega)) rfl) ?_
          refine lx_value (want_if (j := 10) (d := 125) (x := true) (y := true) rfl rfl (by decide) rfl) (rn_neq rfl rfl) ?_
          refine lx_dec_f ((fun h => h hdm)) ?_
          refine lx_value (want_if (j := 6) (d := 121) (x := false) (y := false) rfl rfl (by decide) rfl) (pick_t rfl rfl) ?_
          refine lx_value (want rfl) (pick_f rfl rfl) ?_
          refine lx_nil ?_
          refine wk_cond_f rfl ?_
          refine wk_skip ?_
          refine wk_seq ?_
          refine wk_region ?_
          refine lx_call (want rfl) (ent_func cf_19 args0) (awake_ct w14) ?_
          rintro _ w15 E7 rfl
          have F22 := F21.ext E7
          have hz7 := E7.size
          refine lx_value (want rfl) (as_bool rfl) ?_
          refine lx_nil ?_
          refine wk_ret ?_
          refine retR1 Tryz.results5 (.tmp (t_bool rfl)) F22 ?_
          exact rfl
        ·
          refine lx_value (want_if (j := 6) (d := 121) (x := false) (y := false) rfl rfl (by decide) rfl) (mv_bool rfl) ?_
          refine lx_skip (want_if (j := 10) (d := 125) (x := true) (y := false) rfl rfl (by decide) rfl) ?_
          refine lx_skip (want_if (j := 10) (d := 125) (x := true) (y := false) rfl rfl (by decide) rfl) ?_
          refine lx_skip (want_if (j := 10) (d := 125) (x := true) (y := false) rfl rfl (by decide) rfl) ?_
          refine lx_skip (want_if (j := 10) (d := 125) (x := true) (y := false) rfl rfl (by decide) rfl) ?_
          refine lx_skip (want_if (j := 10) (d := 125) (x := true) (y := false) rfl rfl (by decide) rfl) ?_
          refine lx_skip (want_if (j := 10) (d := 125) (x := true) (y := false) rfl rfl (by decide) rfl) ?_
          refine lx_skip (want_if (j := 10) (d := 125) (x := true) (y := false) rfl rfl (by decide) rfl) ?_
          refine lx_skip (want_if (j := 10) (d := 125) (x := true) (y := false) rfl rfl (by decide) rfl) ?_
          refine lx_skip (want_if (j := 10) (d := 125) (x := true) (y := false) rfl rfl (by decide) rfl) ?_
          refine lx_skip (want_if (j := 10) (d := 125) (x := true) (y := false) rfl rfl (by decide) rfl) ?_
          refine lx_skip (want_if (j := 10) (d := 125) (x := true) (y := false) rfl rfl (by decide) rfl) ?_
          refine lx_value (want_if (j := 6) (d := 121) (x := false) (y := false) rfl rfl (by decide) rfl) (pick_f rfl rfl) ?_
          refine lx_value (want rfl) (pick_f rfl rfl) ?_
          refine lx_nil ?_
          refine wk_cond_f rfl ?_
          refine wk_skip ?_
          refine wk_seq ?_
          refine wk_region ?_
          refine lx_call (want rfl) (ent_func cf_19 args0) (awake_ct w14) ?_
          rintro _ w15 E8 rfl
          have F23 := F21.ext E8
          have hz8 := E8.size
          refine lx_value (want rfl) (as_bool rfl) ?_
          refine lx_nil ?_
          refine wk_ret ?_
          refine retR1 Tryz.results5 (.tmp (t_bool rfl)) F23 ?_
          exact rfl
    ·
      refine lx_value (want_if (j := 3) (d := 19) (x := false) (y := false) rfl rfl (by decide) rfl) (rn_not rfl) ?_
      refine lx_value (want rfl) (pick_f rfl rfl) ?_
      refine lx_nil ?_
      refine wk_cond_t rfl ?_
      refine wk_seq ?_
      refine wk_region ?_
      refine lx_call (want rfl) (ent_func cf_19 args0) (awake_ct w4) ?_
      rintro _ w5 E9 rfl
      have F24 := F4.ext E9
      have hz9 := E9.size
      refine lx_value (want rfl) (as_bool rfl) ?_
      refine lx_nil ?_
      refine wk_ret ?_
      refine retR1 Tryz.results5 (.tmp (t_bool rfl)) F24 ?_
      exact rfl
  ·
    refine lx_value (want rfl) (rn_not rfl) ?_
    refine lx_value (want rfl) (mv_bool rfl) ?_
    refine lx_skip (want_if (j := 3) (d := 19) (x := false) (y := true) rfl rfl (by decide) rfl) ?_
    refine lx_skip (want_if (j := 3) (d := 19) (x := false) (y := true) rfl rfl (by decide) rfl) ?_
    refine lx_skip (want_if (j := 3) (d := 19) (x := false) (y := true) rfl rfl (by decide) rfl) ?_
    refine lx_value (want rfl) (pick_t rfl rfl) ?_
    refine lx_nil ?_
    refine wk_cond_t rfl ?_
    refine wk_seq ?_
    refine wk_region ?_
    refine lx_call (want rfl) (ent_func cf_19 args0) (awake_ct w3) ?_
    rintro _ w4 E10 rfl
    have F25 := F3.ext E10
    have hz10 := E10.size
    refine lx_value (want rfl) (as_bool rfl) ?_
    refine lx_nil ?_
    refine wk_ret ?_
    refine retR1 Tryz.results5 (.tmp (t_bool rfl)) F25 ?_
    exact rfl

end Go.Proofs.YtnhgfmbmfjmonaaGreatDoor

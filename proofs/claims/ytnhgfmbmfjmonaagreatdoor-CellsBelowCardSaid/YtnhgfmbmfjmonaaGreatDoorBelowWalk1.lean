/- What functions compute: rbelow. -/
import Derived.Test.YtnhgfmbmfjmonaaGreatDoorBelowFacts
import Derived.Test.YtnhgfmbmfjmonaaGreatDoorBelowPre
set_option maxRecDepth 100000
set_option linter.unusedVariables false
set_option linter.unusedSimpArgs false
namespace Go.Proofs.YtnhgfmbmfjmonaaGreatDoor
open Go Go.RowKit Go.Mix Go.Eng
set_option maxHeartbeats 2000000 in
set_option maxRecDepth 100000 in
theorem rbelow_ct (Z : Nat → Prop) (b : Nat) (L : List (Nat × Nat)) (hLb : L.length ≤ 1048576) (l k : List Vl) (s : Option Addr) (c : Nat) (s2 : Option Addr) (c2 : Nat) (G : Nat → Prop) (hGZ : ∀ k, G k → ¬ Z k) (hll : l.length ≤ 1048576) (hlv : ∀ v ∈ l, v.1 = 4 → 0 ≤ v.2) (hkv : ∀ v ∈ k, v.1 = 4 → 0 ≤ v.2) (w0 : World) (hM : MetP Z w0 b L) (hl : VlS G w0 s l) (hk : VlS G w0 s2 k) :
    CT Tryz.prog 101 [.slice s l.length c, .slice s2 k.length c2, .pointer (some ⟨b, 0, none⟩)] w0 Z (fun v w => OutC Z w0.heap.size b L l k w v) := by
  obtain ⟨sM, cM, hBm, hOm, hnb, hZb50, hZo2, hZl⟩ := hM
  have hlb := hBm.lt
  have F0 := Fr.refl Z w0
  have zo2 : ∀ k, ob sM k → Z k ∨ w0.heap.size ≤ k := fun k h => .inl (hZo2 k h)
  refine ct_body Tryz.func101 rfl Tryz.ntmps101 (Nat.le_of_ble_eq_true rfl) ?_
  refine wk_seq ?_
  refine wk_region ?_
  refine lx_value (want rfl) (as_bool rfl) ?_
  refine lx_nil ?_
  refine wk_seq ?_
  refine wk_seq ?_
  refine wk_region ?_
  refine lx_value (want rfl) (mv_slice rfl) ?_
  refine lx_value (want rfl) (rn_len Tryz.underlying30 rfl) ?_
  refine lx_value (want rfl) (mv_slice rfl) ?_
  refine lx_value (want rfl) (rn_len Tryz.underlying30 rfl) ?_
  refine lx_value (want rfl) (rn_neq rfl rfl) ?_
  refine lx_dec (fun hle => ?_) (fun hle => ?_)
  ·
    refine lx_nil ?_
    refine wk_cond_t rfl ?_
    refine wk_seq ?_
    refine wk_region ?_
    refine lx_value (want rfl) (as_bool rfl) ?_
    refine lx_nil ?_
    refine wk_ret ?_
    refine retR1 Tryz.results101 (.tmp (t_bool rfl)) F0 ?_
    exact outC_no (mp_mk hBm rfl hOm hnb (.inl hZb50) zo2) (belB_ne (by omega))
  ·
    have hle : l.length = k.length := by omega
    refine lx_nil ?_
    refine wk_cond_f rfl ?_
    refine wk_skip ?_
    refine wk_seq ?_
    refine wk_seq ?_
    refine wk_region ?_
    refine lx_value (want rfl) (as_int rfl) ?_
    refine lx_nil ?_
    refine wk_block ?_
    refine wk_loopA [6, 7, 8, 9, 10, 11, 12, 18, 19, 20, 21, 22, 23, 24, 25, 26, 27, 28, 29, 30, 31, 32, 33, 34, 35, 36, 37, 38, 39, 40, 41, 42, 43, 44, 45, 46, 47, 48, 49, 50, 51, 52, 53, 54, 55, 56, 57, 58, 59, 60, 61, 62, 63, 64, 65, 66, 67, 68, 69, 70, 71, 72, 73, 74, 75, 76, 77, 78, 79, 80, 81, 82, 83, 84, 85, 86, 87, 88, 89, 90, 91, 92, 93, 94] (fun j => Z j ∨ w0.heap.size ≤ j) (fun nM ρ w => ∃ (i : Nat) (Lq : List (Nat × Nat)) (so1_2 : Option Addr) (co1_2 : Nat), nM = l.length - i ∧ ρ 7 = .int .i64 i ∧ Blk w b [.slice so1_2 Lq.length co1_2] 84 ∧ OwnS w 86 2 so1_2 (Lq.length) co1_2 (Lq.flatMap prC) ∧ (∀ k, ob so1_2 k → Z k ∨ w0.heap.size ≤ k) ∧ (∀ k, ob so1_2 k → k ≠ b) ∧ (i ≤ l.length) ∧ (bfsL Lq (l.drop i) (k.drop i) = bfsL L l k) ∧ (Lq.length ≤ L.length + i)) _ ⟨0, L, sM, cM, rfl, rfl, (by first | exact hBm | (rw [app_len]; exact hBm)), hOm, zo2, hnb, Nat.zero_le _, rfl, Nat.le_refl _⟩ ?_
    rintro n1 ρ1 w1 A1 EL1 ⟨i, Lq, so1_2, co1_2, rfl, hs1_7, BL1_50, ow1L_2, ge1L_2, ne1L_2_50, hi, hq, hlen⟩
    have F1 := F0.wide EL1
    have hzL1 := EL1.size
    refine wk_seq ?_
    refine wk_seq ?_
    refine wk_region ?_
    refine lx_value (want rfl) (mv_int hs1_7) ?_
    refine lx_value (want rfl) (mv_slice (A1.at 0 rfl rfl)) ?_
    refine lx_value (want rfl) (rn_len Tryz.underlying30 rfl) ?_
    refine lx_value (want rfl) (rn_lss rfl rfl) ?_
    refine lx_dec (fun hlt => ?_) (fun hlt => ?_)
    ·
      obtain ⟨vq, hv⟩ := getx hlt
      obtain ⟨wq, hw⟩ : ∃ y, k[i]? = some y := getx (by omega)
      obtain ⟨bv, ov, rfl, hGv, hcv⟩ := hl i vq hv
      obtain ⟨bw, ow, rfl, hGw, hcw⟩ := hk i wq hw
      refine lx_nil ?_
      refine wk_cond_t rfl ?_
      refine wk_skip ?_
      refine wk_seq ?_
      refine wk_block ?_
      refine wk_seq ?_
      refine wk_mix 11 (fun kS => match kS with | 8 => .any (fun I v w => v = .pointer (some ⟨I.1, 0, none⟩) ∧ w1.heap.size ≤ I.1 ∧ I.1 < I.2 ∧ Blk w I.1 [.int .u8 0, .int .i64 0] 36) | 9 => .any (fun I v w => ∃ b, v = .pointer (some ⟨b, 0, none⟩) ∧ w1.heap.size ≤ b ∧ (I.1 ≤ b ∧ b < I.2) ∧ Blk w b [.int .u8 0, .int .i64 0] 36) | 10 => .sto 8 27 (fun J u w => J.1 < J.2 ∧ Blk w J.1 u.cells.toList 36) | _ => .none) (by kernel_rfl) (by kernel_rfl) (by intro kS G hk; (try dsimp only at hk); (split at hk) <;> first | (cases hk; done) | (injection hk with hk; subst hk; exact ⟨by intro j hkj I v w w' hR hG; first | exact hG | (obtain ⟨b, h1, h2, hI, h3⟩ := hG; exact ⟨b, h1, h2, hI, h3.ext hR⟩) | (obtain ⟨h1, h2, hI, h3⟩ := hG; exact ⟨h1, h2, hI, h3.ext hR⟩), fun _ I v w w' hR hG => by first | exact hG | (obtain ⟨b, h1, h2, hI, h3⟩ := hG; exact ⟨b, h1, h2, hI, h3.fr hR (fun h => h.2 hI)⟩) | (obtain ⟨h1, h2, hI, h3⟩ := hG; exact ⟨h1, h2, hI, h3.fr hR (fun h => h.2 ⟨Nat.le_refl _, hI⟩)⟩)⟩)) (by intro kS s y G hk; (try dsimp only at hk); (split at hk) <;> first | (cases hk; done) | (injection hk with hk1 hk2 hk3; subst hk1; subst hk2; subst hk3; exact ⟨by kernel_rfl, by intro j hkj I v w w' hR hG; exact ⟨hG.1, hG.2.ext hR⟩, fun I v w w' hR hG => ⟨hG.1, hG.2.fr hR (fun h => h.2 ⟨Nat.le_refl _, hG.1⟩)⟩⟩)) ?_
      simp only [List.take_succ_cons, List.take_zero, List.take_nil, List.drop_succ_cons, List.drop_zero, List.drop_nil]
      refine mx_calm rfl (want rfl) (fun u1 eu1 fu1 => mv_slice (A1.at 0 rfl rfl)) ?_
      refine mx_calm rfl (want rfl) (fun u2 eu2 fu2 => mv_int hs1_7) ?_
      refine mx_calm rfl (want rfl) (fun u3 eu3 fu3 => rn_index _ Tryz.underlying30 sz_36 rfl rfl rfl (by omega)) ?_
      refine mx_calm rfl (want rfl) (fun u4 eu4 fu4 => rn_load2 ag_36 sz_36 rfl ((F1.ext ((ext_drawn _).trans' eu4)).cell (hGZ _ hGv) (hcv 0 _ rfl)) ((F1.ext ((ext_drawn _).trans' eu4)).cell (hGZ _ hGv) (hcv 1 _ rfl))) ?_
      refine mx_calm rfl (want rfl) (fun u5 eu5 fu5 => mv_slice (A1.at 1 rfl rfl)) ?_
      refine mx_calm rfl (want rfl) (fun u6 eu6 fu6 => mv_int hs1_7) ?_
      refine mx_calm rfl (want rfl) (fun u7 eu7 fu7 => rn_index _ Tryz.underlying30 sz_36 rfl rfl rfl (by omega)) ?_
      refine mx_calm rfl (want rfl) (fun u8 eu8 fu8 => rn_load2 ag_36 sz_36 rfl ((F1.ext ((ext_drawn _).trans' eu8)).cell (hGZ _ hGw) (hcw 0 _ rfl)) ((F1.ext ((ext_drawn _).trans' eu8)).cell (hGZ _ hGw) (hcw 1 _ rfl))) ?_
      refine mx_any rfl rfl (want rfl) (fun u9 eu9 fu9 => (do_new3 (rn_alloc ze_36) (show _ ≤ _ from (((ext_drawn _).trans' eu9)).size)).mono (fun v w' h => ⟨h.1, h.2⟩)) (fun I8 v8 => ?_)
      refine mx_any rfl rfl (want rfl) (fun u10 eu10 fu10 => (do_new2 (rn_alloc ze_36) (show _ ≤ _ from (((ext_drawn _).trans' eu10)).size)).mono (fun v w' h => ⟨h.1, h.2⟩)) (fun I9 v9 => ?_)
      refine mx_sto rfl rfl rfl rfl (want rfl) (fun u11 eu11 fu11 _ => by obtain ⟨rfl, hl8, hi8, hB8⟩ := fu11 8 _ rfl (show (8 : Nat) ∈ _ from by decide); exact (do_sto sz_36 rfl rfl rfl rfl rfl hB8 rfl ⟨Nat.le_refl _, hi8⟩).mono (fun v w' h => ⟨h.1, h.2.1, hi8, h.2.2⟩)) ?_
      refine mx_nil (fun w2 E1' H1 HS => ?_)
      have E1 := (ext_drawn _).trans' E1'
      have F2 := F1.ext E1
      have hz1 := E1.size
      have hI9 := (HS.1 9 _ rfl).2
      have hI8 := (HS.1 8 _ rfl).2
      have hX9_8 := HS.2 9 _ 8 _ rfl rfl (show (9 : Nat) ≠ 8 from by decide)
      simp only at hI9
      simp only at hI8
      simp only at hX9_8
      have g9 := H1 9 _ rfl
      (try dsimp only at g9); obtain ⟨b109, hv9, hbb109, hib109, Bb109⟩ := g9; subst hv9; have hlbb109 := Bb109.lt
      have nb1 : ∀ k, ob so1_2 k → k ≠ b109 := fun k hk => by have := (ow1L_2).lt hk; omega
      have g8 := H1 8 _ rfl
      obtain ⟨⟨_, hv8, hb8, _, _⟩, hi8, hB8⟩ := g8; subst hv8; have hlb8 := hB8.lt
      have nb2 : ∀ k, ob so1_2 k → k ≠ I8.1 := fun k hk => by have := (ow1L_2).lt hk; omega
      refine lx_set (want rfl) sz_36 rfl (t_agg rfl) rfl rfl rfl Bb109 (Nat.le_of_ble_eq_true rfl) ?_
      intro w3 Es1 Bs1
      have F3 := F2.set Es1 (by omega)
      have hzs1 := Es1.size
      refine lx_nil ?_
      refine wk_block ?_
      refine wk_seq ?_
      refine wk_region ?_
      refine lx_value (want rfl) (rn_fieldAddr fa_36_0 rfl) ?_
      refine lx_value (want rfl) (rn_load1Blk ag_5 rfl (hB8.ne Es1 (by omega)) rfl) ?_
      refine lx_value (want rfl) (rn_eql rfl rfl) ?_
      refine lx_dec (fun h0 => ?_) (fun h0 => ?_)
      ·
        have hon := bfs_hole (L := Lq) hv hw h0
        refine lx_value (want rfl) (as_bool rfl) ?_
        refine lx_nil ?_
        refine wk_cond_t rfl ?_
        refine wk_skip ?_
        refine wk_region ?_
        refine lx_value (want rfl) (mv_int hs1_7) ?_
        refine lx_value (want rfl) (rn_add rfl rfl (by omega)) ?_
        refine lx_value (want rfl) (as_int rfl) ?_
        refine lx_nil ?_
        exact ⟨rfl, (((((((((((((((((((((((A1.up rfl _).up rfl _).up rfl _).up rfl _).up rfl _).up rfl _).up rfl _).up rfl _).up rfl _).up rfl _).up rfl _).up rfl _).up rfl _).up rfl _).none _).none _).up rfl _).up rfl _).up rfl _).up rfl _).up rfl _).up rfl _).up rfl _), Fr.between F0 F3 (by omega), _, (by omega), i + 1, Lq, so1_2, co1_2, rfl, rfl, (by first | exact ((BL1_50.ext E1).ne Es1 (by omega)) | (rw [app_len]; exact ((BL1_50.ext E1).ne Es1 (by omega)))), (by first | exact ((ow1L_2.ext E1).ne Es1 (fun h => nb1 _ h rfl)) | exact own_more ((ow1L_2.ext E1).ne Es1 (fun h => nb1 _ h rfl)) (by rw [prC, hnv, hnw])), ge1L_2, ne1L_2_50, by have := (List.getElem?_eq_some_iff.1 hv).1; omega, (hon.symm.trans hq), by omega⟩
      ·
        refine lx_value (want rfl) (as_bool rfl) ?_
        refine lx_nil ?_
        refine wk_cond_f rfl ?_
        refine wk_seq ?_
        refine wk_region ?_
        refine lx_value (want rfl) (rn_fieldAddr fa_36_0 rfl) ?_
        refine lx_value (want rfl) (rn_load1Blk ag_5 rfl (hB8.ne Es1 (by omega)) rfl) ?_
        refine lx_value (want rfl) (rn_neq rfl rfl) ?_
        refine lx_dec (fun h4 => ?_) (fun h4 => ?_)
        ·
          refine lx_value (want rfl) (mv_bool rfl) ?_
          refine lx_skip (want_if (j := 3) (d := 87) (x := false) (y := true) rfl rfl (by decide) rfl) ?_
          refine lx_skip (want_if (j := 3) (d := 87) (x := false) (y := true) rfl rfl (by decide) rfl) ?_
          refine lx_skip (want_if (j := 3) (d := 87) (x := false) (y := true) rfl rfl (by decide) rfl) ?_
          refine lx_value (want rfl) (pick_t rfl rfl) ?_
          refine lx_value (want rfl) (as_bool rfl) ?_
          refine lx_nil ?_
          refine wk_cond_t rfl ?_
          refine wk_seq ?_
          refine wk_region ?_
          refine lx_value (want rfl) (rn_loadBlk ag_36 sz_36 rfl (hB8.ne Es1 (by omega)) rfl rfl) ?_
          refine lx_value (want rfl) (rn_loadBlk ag_36 sz_36 rfl Bs1 rfl rfl) ?_
          refine lx_value (want rfl) (rn_cmpS (t_agg rfl) (t_agg rfl) (gneq_36 _ _ _ _) (neq_36 _ _ _ _)) ?_
          refine lx_dec (fun hne => ?_) (fun hne => ?_)
          ·
            refine lx_nil ?_
            refine wk_cond_t rfl ?_
            refine wk_seq ?_
            refine wk_region ?_
            refine lx_value (want rfl) (as_bool rfl) ?_
            refine lx_nil ?_
            refine wk_ret ?_
            refine retR1 Tryz.results101 (.tmp (t_bool rfl)) F3 ?_
            exact outC_no (mp_mk ((BL1_50.ext E1).ne Es1 (by omega)) rfl ((ow1L_2.ext E1).ne Es1 (fun h => nb1 _ h rfl)) ne1L_2_50 (.inl hZb50) ge1L_2) ((belB_eq hle).trans (hq.symm.trans (bfs_ne hv hw h0 (.inl h4) (vl_ne hne))))
          ·
            have hon := bfs_same (L := Lq) hv hw h0 (by first | exact .inl h4 | exact .inr h5) (vl_eq hne)
            refine lx_nil ?_
            refine wk_cond_f rfl ?_
            refine wk_skip ?_
            refine wk_region ?_
            refine lx_value (want rfl) (mv_int hs1_7) ?_
            refine lx_value (want rfl) (rn_add rfl rfl (by omega)) ?_
            refine lx_value (want rfl) (as_int rfl) ?_
            refine lx_nil ?_
            exact ⟨rfl, (((((((((((((((((((((((((((((((((((A1.up rfl _).up rfl _).up rfl _).up rfl _).up rfl _).up rfl _).up rfl _).up rfl _).up rfl _).up rfl _).up rfl _).up rfl _).up rfl _).up rfl _).none _).none _).up rfl _).up rfl _).up rfl _).up rfl _).up rfl _).up rfl _).up rfl _).up rfl _).up rfl _).up rfl _).up rfl _).up rfl _).up rfl _).up rfl _).up rfl _).up rfl _).up rfl _).up rfl _).up rfl _), Fr.between F0 F3 (by omega), _, (by omega), i + 1, Lq, so1_2, co1_2, rfl, rfl, (by first | exact ((BL1_50.ext E1).ne Es1 (by omega)) | (rw [app_len]; exact ((BL1_50.ext E1).ne Es1 (by omega)))), (by first | exact ((ow1L_2.ext E1).ne Es1 (fun h => nb1 _ h rfl)) | exact own_more ((ow1L_2.ext E1).ne Es1 (fun h => nb1 _ h rfl)) (by rw [prC, hnv, hnw])), ge1L_2, ne1L_2_50, by have := (List.getElem?_eq_some_iff.1 hv).1; omega, (hon.symm.trans hq), by omega⟩
        ·
          replace h4 : vq.1 = 4 := Decidable.not_not.1 h4
          refine lx_value (want rfl) (mv_bool rfl) ?_
          refine lx_value (want_if (j := 3) (d := 87) (x := false) (y := false) rfl rfl (by decide) rfl) (rn_fieldAddr fa_36_0 rfl) ?_
          refine lx_value (want_if (j := 3) (d := 87) (x := false) (y := false) rfl rfl (by decide) rfl) (rn_load1Blk ag_5 rfl Bs1 rfl) ?_
          refine lx_value (want_if (j := 3) (d := 87) (x := false) (y := false) rfl rfl (by decide) rfl) (rn_neq rfl rfl) ?_
          refine lx_dec (fun h5 => ?_) (fun h5 => ?_)
          ·
            refine lx_value (want rfl) (pick_f rfl rfl) ?_
            refine lx_value (want rfl) (as_bool rfl) ?_
            refine lx_nil ?_
            refine wk_cond_t rfl ?_
            refine wk_seq ?_
            refine wk_region ?_
            refine lx_value (want rfl) (rn_loadBlk ag_36 sz_36 rfl (hB8.ne Es1 (by omega)) rfl rfl) ?_
            refine lx_value (want rfl) (rn_loadBlk ag_36 sz_36 rfl Bs1 rfl rfl) ?_
            refine lx_value (want rfl) (rn_cmpS (t_agg rfl) (t_agg rfl) (gneq_36 _ _ _ _) (neq_36 _ _ _ _)) ?_
            refine lx_dec (fun hne => ?_) (fun hne => ?_)
            ·
              refine lx_nil ?_
              refine wk_cond_t rfl ?_
              refine wk_seq ?_
              refine wk_region ?_
              refine lx_value (want rfl) (as_bool rfl) ?_
              refine lx_nil ?_
              refine wk_ret ?_
              refine retR1 Tryz.results101 (.tmp (t_bool rfl)) F3 ?_
              exact outC_no (mp_mk ((BL1_50.ext E1).ne Es1 (by omega)) rfl ((ow1L_2.ext E1).ne Es1 (fun h => nb1 _ h rfl)) ne1L_2_50 (.inl hZb50) ge1L_2) ((belB_eq hle).trans (hq.symm.trans (bfs_ne hv hw h0 (.inr h5) (vl_ne hne))))
            ·
              have hon := bfs_same (L := Lq) hv hw h0 (by first | exact .inl h4 | exact .inr h5) (vl_eq hne)
              refine lx_nil ?_
              refine wk_cond_f rfl ?_
              refine wk_skip ?_
              refine wk_region ?_
              refine lx_value (want rfl) (mv_int hs1_7) ?_
              refine lx_value (want rfl) (rn_add rfl rfl (by omega)) ?_
              refine lx_value (want rfl) (as_int rfl) ?_
              refine lx_nil ?_
              exact ⟨rfl, (((((((((((((((((((((((((((((((((((A1.up rfl _).up rfl _).up rfl _).up rfl _).up rfl _).up rfl _).up rfl _).up rfl _).up rfl _).up rfl _).up rfl _).up rfl _).up rfl _).up rfl _).none _).none _).up rfl _).up rfl _).up rfl _).up rfl _).up rfl _).up rfl _).up rfl _).up rfl _).up rfl _).up rfl _).up rfl _).up rfl _).up rfl _).up rfl _).up rfl _).up rfl _).up rfl _).up rfl _).up rfl _), Fr.between F0 F3 (by omega), _, (by omega), i + 1, Lq, so1_2, co1_2, rfl, rfl, (by first | exact ((BL1_50.ext E1).ne Es1 (by omega)) | (rw [app_len]; exact ((BL1_50.ext E1).ne Es1 (by omega)))), (by first | exact ((ow1L_2.ext E1).ne Es1 (fun h => nb1 _ h rfl)) | exact own_more ((ow1L_2.ext E1).ne Es1 (fun h => nb1 _ h rfl)) (by rw [prC, hnv, hnw])), ge1L_2, ne1L_2_50, by have := (List.getElem?_eq_some_iff.1 hv).1; omega, (hon.symm.trans hq), by omega⟩
          ·
            replace h5 : wq.1 = 4 := Decidable.not_not.1 h5
            have h0v := hlv vq (List.mem_of_getElem? hv) h4
            have h0w := hkv wq (List.mem_of_getElem? hw) h5
            have hnv := num_eq h0v
            have hnw := num_eq h0w
            refine lx_value (want rfl) (pick_f rfl rfl) ?_
            refine lx_value (want rfl) (as_bool rfl) ?_
            refine lx_nil ?_
            refine wk_cond_f rfl ?_
            refine wk_seq ?_
            refine wk_region ?_
            refine lx_value (want rfl) (as_bool rfl) ?_
            refine lx_nil ?_
            refine wk_seq ?_
            refine wk_seq ?_
            refine wk_region ?_
            refine lx_value (want rfl) (as_int rfl) ?_
            refine lx_nil ?_
            refine wk_block ?_
            refine wk_loopA [6, 10, 11, 12, 32, 33, 34, 35, 36, 37, 38, 39, 40, 41, 42, 43, 44, 45, 46, 47, 48, 49, 50, 51, 52, 53, 54, 55, 56, 57, 58, 59, 60, 61, 62, 63, 64] no (fun nM ρ w => ∃ (j : Nat), nM = Lq.length - j ∧ ρ 11 = .int .i64 j ∧ ρ 10 = .bool ((Lq.take j).any (prA (num vq))) ∧ (j ≤ Lq.length) ∧ ((Lq.take j).all (prB (num vq) (num wq)) = true)) _ ⟨0, rfl, rfl, rfl, Nat.zero_le _, rfl⟩ ?_
            rintro n2 ρ2 w4 A2 EL2 ⟨j, rfl, hs2_11, hs2_10, hj, hall⟩
            have F4 := F3.ext EL2
            have hzL2 := EL2.size
            refine wk_seq ?_
            refine wk_seq ?_
            refine wk_region ?_
            refine lx_value (want rfl) (mv_int hs2_11) ?_
            refine lx_value (want rfl) (mv_pointer (A2.at 2 rfl (A1.at 2 rfl rfl))) ?_
            refine lx_value (want rfl) (rn_nilCheck rfl) ?_
            refine lx_value (want rfl) (rn_load1Blk ag_84 rfl (((BL1_50.ext E1).ne Es1 (by omega)).ext EL2) rfl) ?_
            refine lx_value (want rfl) (rn_len Tryz.underlying84 rfl) ?_
            refine lx_value (want rfl) (rn_lss rfl rfl) ?_
            refine lx_dec (fun hjl => ?_) (fun hjl => ?_)
            ·
              obtain ⟨x, hx⟩ := getx hjl
              have hMs := OwnS.sl (F := fun _ => True) ((((ow1L_2.ext E1).ne Es1 (fun h => nb1 _ h rfl)).ext EL2)) (by decide) rfl (fun _ _ => rfl) (fun _ _ => trivial)
              obtain ⟨bM, oM, hsM, _, hcM⟩ := hMs j x hx
              subst hsM
              refine lx_nil ?_
              refine wk_cond_t rfl ?_
              refine wk_skip ?_
              refine wk_seq ?_
              refine wk_block ?_
              refine wk_seq ?_
              refine wk_region ?_
              refine lx_value (want rfl) (mv_pointer (A2.at 2 rfl (A1.at 2 rfl rfl))) ?_
              refine lx_value (want rfl) (rn_nilCheck rfl) ?_
              refine lx_value (want rfl) (rn_load1Blk ag_84 rfl (((BL1_50.ext E1).ne Es1 (by omega)).ext EL2) rfl) ?_
              refine lx_value (want rfl) (mv_int hs2_11) ?_
              refine lx_value (want rfl) (rn_index _ Tryz.underlying84 sz_86 rfl rfl rfl (by omega)) ?_
              refine lx_value (want rfl) (rn_load2 ag_86 sz_86 rfl (hcM 0 _ rfl) (hcM 1 _ rfl)) ?_
              refine lx_new (want rfl) (rn_alloc ze_86) ?_
              intro b21 w5 hb21 Eb21 B21 hlb21
              have F5 := F4.ext Eb21
              have hzb21 := Eb21.size
              have nb3 : ∀ k, ob (some (⟨bM, oM, none⟩ : Addr)) k → k ≠ b21 := fun k hk => by have := (ow1L_2).lt hk; omega
              refine lx_set (want rfl) sz_86 rfl (t_agg rfl) rfl rfl rfl B21 (Nat.le_of_ble_eq_true rfl) ?_
              intro w6 Es2 Bs2
              have F6 := F5.set Es2 (by omega)
              have hzs2 := Es2.size
              refine lx_nil ?_
              refine wk_seq ?_
              refine wk_seq ?_
              refine wk_region ?_
              refine lx_value (want rfl) (rn_indexA 0 Tryz.underlying86 sz_3 rfl rfl rfl (by decide)) ?_
              refine lx_value (want rfl) (rn_load1Blk ag_3 rfl Bs2 rfl) ?_
              refine lx_value (want rfl) (rn_fieldAddr fa_36_1 (A2.at 8 rfl rfl)) ?_
              refine lx_value (want rfl) (rn_load1Blk ag_3 rfl ((((hB8.ne Es1 (by omega)).ext EL2).ext Eb21).ne Es2 (by omega)) rfl) ?_
              refine lx_value (want rfl) (rn_eql rfl rfl) ?_
              refine lx_value (want rfl) (rn_indexA 1 Tryz.underlying86 sz_3 rfl rfl rfl (by decide)) ?_
              refine lx_value (want rfl) (rn_load1Blk ag_3 rfl Bs2 rfl) ?_
              refine lx_value (want rfl) (rn_fieldAddr fa_36_1 (A2.at 9 rfl rfl)) ?_
              refine lx_value (want rfl) (rn_load1Blk ag_3 rfl (((Bs1.ext EL2).ext Eb21).ne Es2 (by omega)) rfl) ?_
              refine lx_value (want rfl) (rn_eql rfl rfl) ?_
              refine lx_value (want rfl) (rn_neqB Tryz.underlying4 rfl rfl) ?_
              refine lx_dec (fun hcl => ?_) (fun hcl => ?_)
              ·
                refine lx_nil ?_
                refine wk_cond_t rfl ?_
                refine wk_seq ?_
                refine wk_region ?_
                refine lx_value (want rfl) (as_bool rfl) ?_
                refine lx_nil ?_
                refine wk_ret ?_
                refine retR1 Tryz.results101 (.tmp (t_bool rfl)) F6 ?_
                exact outC_no (mp_mk (((((BL1_50.ext E1).ne Es1 (by omega)).ext EL2).ext Eb21).ne Es2 (by omega)) rfl (((((ow1L_2.ext E1).ne Es1 (fun h => nb1 _ h rfl)).ext EL2).ext Eb21).ne Es2 (fun h => nb3 _ h rfl)) ne1L_2_50 (.inl hZb50) ge1L_2) ((belB_eq hle).trans (hq.symm.trans (bfs_no hv hw h4 h5 (bfs1_clash hx (prB_ne h0v h0w hcl)))))
              ·
                have hpb := prB_eq h0v h0w hcl
                refine lx_nil ?_
                refine wk_cond_f rfl ?_
                refine wk_skip ?_
                refine wk_region ?_
                refine lx_value (want rfl) (mv_bool hs2_10) ?_
                refine lx_split (fun hs1 => ?_) (fun hs1 => ?_)
                ·
                  refine lx_value (want rfl) (mv_bool rfl) ?_
                  refine lx_skip (want_if (j := 1) (d := 58) (x := false) (y := true) rfl rfl (by decide) rfl) ?_
                  refine lx_skip (want_if (j := 1) (d := 58) (x := false) (y := true) rfl rfl (by decide) rfl) ?_
                  refine lx_skip (want_if (j := 1) (d := 58) (x := false) (y := true) rfl rfl (by decide) rfl) ?_
                  refine lx_skip (want_if (j := 1) (d := 58) (x := false) (y := true) rfl rfl (by decide) rfl) ?_
                  refine lx_skip (want_if (j := 1) (d := 58) (x := false) (y := true) rfl rfl (by decide) rfl) ?_
                  refine lx_value (want rfl) (pick_t rfl rfl) ?_
                  refine lx_value (want rfl) (as_bool rfl) ?_
                  refine lx_nil ?_
                  refine wk_region ?_
                  refine lx_value (want rfl) (mv_int hs2_11) ?_
                  refine lx_value (want rfl) (rn_add rfl rfl (by omega)) ?_
                  refine lx_value (want rfl) (as_int rfl) ?_
                  refine lx_nil ?_
                  exact ⟨rfl, (((((((((((((((((((((((((((((((((((((A2.up rfl _).up rfl _).up rfl _).up rfl _).up rfl _).up rfl _).up rfl _).up rfl _).up rfl _).up rfl _).up rfl _).up rfl _).up rfl _).none _).up rfl _).up rfl _).up rfl _).up rfl _).up rfl _).up rfl _).up rfl _).up rfl _).up rfl _).up rfl _).up rfl _).up rfl _).up rfl _).up rfl _).up rfl _).up rfl _).up rfl _).up rfl _).up rfl _).up rfl _).up rfl _).up rfl _).up rfl _), (Fr.trans (Fr.ext EL2 Eb21) Es2 (fun i hi1 h => (absurd hi1 (by omega)))), _, (by omega), j + 1, rfl, rfl, (by first | exact any_tk1 hx hs1 | exact any_tk2 hx h0v hs1 hs2), by omega, (all_step hall hx hpb)⟩
                ·
                  refine lx_value (want rfl) (mv_bool rfl) ?_
                  refine lx_value (want_if (j := 1) (d := 58) (x := false) (y := false) rfl rfl (by decide) rfl) (rn_indexA 0 Tryz.underlying86 sz_3 rfl rfl rfl (by decide)) ?_
                  refine lx_value (want_if (j := 1) (d := 58) (x := false) (y := false) rfl rfl (by decide) rfl) (rn_load1Blk ag_3 rfl Bs2 rfl) ?_
                  refine lx_value (want_if (j := 1) (d := 58) (x := false) (y := false) rfl rfl (by decide) rfl) (rn_fieldAddr fa_36_1 (A2.at 8 rfl rfl)) ?_
                  refine lx_value (want_if (j := 1) (d := 58) (x := false) (y := false) rfl rfl (by decide) rfl) (rn_load1Blk ag_3 rfl ((((hB8.ne Es1 (by omega)).ext EL2).ext Eb21).ne Es2 (by omega)) rfl) ?_
                  refine lx_value (want_if (j := 1) (d := 58) (x := false) (y := false) rfl rfl (by decide) rfl) (rn_eql rfl rfl) ?_
                  refine lx_split (fun hs2 => ?_) (fun hs2 => ?_)
                  ·
                    refine lx_value (want rfl) (pick_f rfl rfl) ?_
                    refine lx_value (want rfl) (as_bool rfl) ?_
                    refine lx_nil ?_
                    refine wk_region ?_
                    refine lx_value (want rfl) (mv_int hs2_11) ?_
                    refine lx_value (want rfl) (rn_add rfl rfl (by omega)) ?_
                    refine lx_value (want rfl) (as_int rfl) ?_
                    refine lx_nil ?_
                    exact ⟨rfl, (((((((((((((((((((((((((((((((((((((A2.up rfl _).up rfl _).up rfl _).up rfl _).up rfl _).up rfl _).up rfl _).up rfl _).up rfl _).up rfl _).up rfl _).up rfl _).up rfl _).none _).up rfl _).up rfl _).up rfl _).up rfl _).up rfl _).up rfl _).up rfl _).up rfl _).up rfl _).up rfl _).up rfl _).up rfl _).up rfl _).up rfl _).up rfl _).up rfl _).up rfl _).up rfl _).up rfl _).up rfl _).up rfl _).up rfl _).up rfl _), (Fr.trans (Fr.ext EL2 Eb21) Es2 (fun i hi1 h => (absurd hi1 (by omega)))), _, (by omega), j + 1, rfl, rfl, (by first | exact any_tk1 hx hs1 | exact any_tk2 hx h0v hs1 hs2), by omega, (all_step hall hx hpb)⟩
                  ·
                    refine lx_value (want rfl) (pick_f rfl rfl) ?_
                    refine lx_value (want rfl) (as_bool rfl) ?_
                    refine lx_nil ?_
                    refine wk_region ?_
                    refine lx_value (want rfl) (mv_int hs2_11) ?_
                    refine lx_value (want rfl) (rn_add rfl rfl (by omega)) ?_
                    refine lx_value (want rfl) (as_int rfl) ?_
                    refine lx_nil ?_
                    exact ⟨rfl, (((((((((((((((((((((((((((((((((((((A2.up rfl _).up rfl _).up rfl _).up rfl _).up rfl _).up rfl _).up rfl _).up rfl _).up rfl _).up rfl _).up rfl _).up rfl _).up rfl _).none _).up rfl _).up rfl _).up rfl _).up rfl _).up rfl _).up rfl _).up rfl _).up rfl _).up rfl _).up rfl _).up rfl _).up rfl _).up rfl _).up rfl _).up rfl _).up rfl _).up rfl _).up rfl _).up rfl _).up rfl _).up rfl _).up rfl _).up rfl _), (Fr.trans (Fr.ext EL2 Eb21) Es2 (fun i hi1 h => (absurd hi1 (by omega)))), _, (by omega), j + 1, rfl, rfl, (by first | exact any_tk1 hx hs1 | exact any_tk2 hx h0v hs1 hs2), by omega, (all_step hall hx hpb)⟩
            ·
              refine lx_nil ?_
              refine wk_cond_f rfl ?_
              refine wk_exit ?_
              refine wk_seq ?_
              refine wk_region ?_
              refine lx_value (want rfl) (mv_bool hs2_10) ?_
              refine lx_split (fun hany => ?_) (fun hany => ?_)
              ·
                rw [take_full hjl] at hany hall
                have hon := bfs_on hv hw h4 h5 (bfs1_there hall hany)
                refine lx_value (want rfl) (rn_not rfl) ?_
                refine lx_nil ?_
                refine wk_cond_f rfl ?_
                refine wk_skip ?_
                refine wk_region ?_
                refine lx_value (want rfl) (mv_int (A2.at 7 rfl hs1_7)) ?_
                refine lx_value (want rfl) (rn_add rfl rfl (by omega)) ?_
                refine lx_value (want rfl) (as_int rfl) ?_
                refine lx_nil ?_
                exact ⟨rfl, (((((((((((((((((((((((((((((((((((((((((((A1.up rfl _).up rfl _).up rfl _).up rfl _).up rfl _).up rfl _).up rfl _).up rfl _).up rfl _).up rfl _).up rfl _).up rfl _).up rfl _).up rfl _).none _).none _).up rfl _).up rfl _).up rfl _).up rfl _).up rfl _).up rfl _).up rfl _).up rfl _).up rfl _).up rfl _).up rfl _).up rfl _).up rfl _).up rfl _).up rfl _).loop A2 rfl).up rfl _).up rfl _).up rfl _).up rfl _).up rfl _).up rfl _).up rfl _).up rfl _).up rfl _).up rfl _).up rfl _), Fr.between F0 F4 (by omega), _, (by omega), i + 1, Lq, so1_2, co1_2, rfl, rfl, (by first | exact (((BL1_50.ext E1).ne Es1 (by omega)).ext EL2) | (rw [app_len]; exact (((BL1_50.ext E1).ne Es1 (by omega)).ext EL2))), (by first | exact (((ow1L_2.ext E1).ne Es1 (fun h => nb1 _ h rfl)).ext EL2) | exact own_more (((ow1L_2.ext E1).ne Es1 (fun h => nb1 _ h rfl)).ext EL2) (by rw [prC, hnv, hnw])), ge1L_2, ne1L_2_50, by have := (List.getElem?_eq_some_iff.1 hv).1; omega, (hon.symm.trans hq), by omega⟩
              ·
                rw [take_full hjl] at hany hall
                have hon := bfs_on hv hw h4 h5 (bfs1_new hall hany)
                refine lx_value (want rfl) (rn_not rfl) ?_
                refine lx_nil ?_
                refine wk_cond_t rfl ?_
                have hOw := (((ow1L_2.ext E1).ne Es1 (fun h => nb1 _ h rfl)).ext EL2)
                have hSl : ∀ k, (ob so1_2) k → k < w4.heap.size := fun k h => ((((ow1L_2.ext E1).ne Es1 (fun h => nb1 _ h rfl)).ext EL2)).lt h
                refine wk_mixA 11 10 (ob so1_2) (fun kS => match kS with | 9 => .any (fun I v w => ∃ b, v = .slice (some ⟨b, 0, none⟩) 1 1 ∧ w4.heap.size ≤ b ∧ (I.1 ≤ b ∧ b < I.2) ∧ Blk w b [.int .i64 vq.2, .int .i64 wq.2] 86) | 10 => .any (fun I v w => ∃ s c, v = .slice s (Lq.length + 1) c ∧ OwnS w 86 2 s (Lq.length + 1) c ((Lq.flatMap prC) ++ [.int .i64 vq.2, .int .i64 wq.2]) ∧ ∀ k, ob s k → (ob so1_2 k ∨ w4.heap.size ≤ k)) | _ => .none) (by kernel_rfl) (by kernel_rfl) (by intro kS G hk; (try dsimp only at hk); (split at hk) <;> first | (cases hk; done) | (injection hk with hk; subst hk; exact ⟨by intro j hkj I v w w' hR hG; first | exact hG | (obtain ⟨b, h1, h2, hI, h3⟩ := hG; exact ⟨b, h1, h2, hI, h3.fr (mS hR) (fun hs => by have := hOw.lt hs; omega)⟩) | (obtain ⟨s, c, h1, h2, h3⟩ := hG; exact ⟨s, c, h1, h2.ext (mT hkj hR), h3⟩), fun ⟨_, _, _, _, hs⟩ => by (try dsimp only at hs); split at hs <;> cases hs⟩)) (by intro kS s y G hk; (try dsimp only at hk); split at hk <;> cases hk) ?_
                simp only [List.take_succ_cons, List.take_zero, List.take_nil, List.drop_succ_cons, List.drop_zero, List.drop_nil]
                refine mx_calm rfl (want rfl) (fun u12 eu12 fu12 => mv_pointer (A2.at 2 rfl (A1.at 2 rfl rfl))) ?_
                refine mx_calm rfl (want rfl) (fun u13 eu13 fu13 => mv_pointer (A2.at 2 rfl (A1.at 2 rfl rfl))) ?_
                refine mx_calm rfl (want rfl) (fun u14 eu14 fu14 => rn_nilCheck rfl) ?_
                refine mx_calm rfl (want rfl) (fun u15 eu15 fu15 => rn_load1Blk ag_84 rfl ((((BL1_50.ext E1).ne Es1 (by omega)).ext EL2).fr (mD (by decide) eu15) (fun h => ne1L_2_50 _ h rfl)) rfl) ?_
                refine mx_calm rfl (want rfl) (fun u16 eu16 fu16 => rn_fieldAddr fa_36_1 (A2.at 8 rfl rfl)) ?_
                refine mx_calm rfl (want rfl) (fun u17 eu17 fu17 => rn_load1Blk ag_3 rfl (((hB8.ne Es1 (by omega)).ext EL2).fr (mD (by decide) eu17) (fun h => nb2 _ h rfl)) rfl) ?_
                refine mx_calm rfl (want rfl) (fun u18 eu18 fu18 => rn_fieldAddr fa_36_1 (A2.at 9 rfl rfl)) ?_
                refine mx_calm rfl (want rfl) (fun u19 eu19 fu19 => rn_load1Blk ag_3 rfl ((Bs1.ext EL2).fr (mD (by decide) eu19) (fun h => nb1 _ h rfl)) rfl) ?_
                refine mx_calm rfl (want rfl) (fun u20 eu20 fu20 => rn_build2 (t_int rfl) (t_int rfl) (fun w => bd_86_0_1 _ _ w)) ?_
                refine mx_any rfl rfl (want rfl) (fun u21 eu21 fu21 => (do_newS2 (rn_bslice (xs := [.tmp 75]) Tryz.underlying84 sz_86 ze_86 rfl (argsC (t_agg rfl) args0) (CL.cons rfl rfl CL.nil) rfl (Nat.le_of_ble_eq_true rfl)) (show _ ≤ _ from ((mD (by decide) eu21)).size)).mono (fun v w' h => ⟨(mE (by decide) h.1), h.2⟩)) (fun I76 v76 => ?_)
                refine mx_any rfl rfl (want rfl) (fun u22 eu22 fu22 => by obtain ⟨bS, rfl, hbS, _, hBS⟩ := fu22 76 _ rfl (show (76 : Nat) ∈ _ from by decide); exact do_append 16 Tryz.underlying84 ti_86 (by decide) rfl (by decide) rfl rfl ((((ow1L_2.ext E1).ne Es1 (fun h => nb1 _ h rfl)).ext EL2).ext (mC eu22)) (Src.blk hBS rfl rfl) (by omega) (fun sA cA wA AP => ⟨(mF AP.fr), ⟨sA, cA, rfl, AP.own, fun k hk => (AP.blk k hk).elim .inl (fun h => .inr (Nat.le_trans (mC eu22).size h))⟩⟩)) (fun I77 v77 => ?_)
                refine mx_nil (fun w5 E2' H2 HS => ?_)
                have E2 := mG E2'
                have hI77 := (HS.1 77 _ rfl).2
                have hI76 := (HS.1 76 _ rfl).2
                have hX77_76 := HS.2 77 _ 76 _ rfl rfl (show (77 : Nat) ≠ 76 from by decide)
                simp only at hI77
                simp only at hI76
                simp only at hX77_76
                have g77 := H2 77 _ rfl
                obtain ⟨sq1, cq1, rfl, hO1, hI1⟩ := g77
                have g76 := H2 76 _ rfl
                have AP1 : Apd w4 _ _ so1_2 _ _ sq1 cq1 w5 := ⟨hO1, E2, hI1⟩
                have EA1 := AP1.fr
                have ow1 := AP1.own
                have ge1 : ∀ k, ob sq1 k → Z k ∨ w0.heap.size ≤ k := fun k hk => (AP1.blk k hk).elim (ge1L_2 k) (fun h => .inr (Nat.le_trans F4.size h))
                have ne1_50 : ∀ k, ob sq1 k → k ≠ b := fun k hk => (AP1.blk k hk).elim (ne1L_2_50 k) (fun h => by have := ((((BL1_50.ext E1).ne Es1 (by omega)).ext EL2)).lt; omega)
                have ne1_109 : ∀ k, ob sq1 k → k ≠ b109 := fun k hk => (AP1.blk k hk).elim (nb1 k) (fun h => by have := ((Bs1.ext EL2)).lt; omega)
                have ne1_1008 : ∀ k, ob sq1 k → k ≠ I8.1 := fun k hk => (AP1.blk k hk).elim (nb2 k) (fun h => by have := (((hB8.ne Es1 (by omega)).ext EL2)).lt; omega)
                have F7 := F4.new' EA1 ge1L_2
                have hzA1 := EA1.size
                have BA1_50 := (((BL1_50.ext E1).ne Es1 (by omega)).ext EL2).fr EA1 (fun h => ne1L_2_50 _ h rfl)
                have BA1_109 := (Bs1.ext EL2).fr EA1 (fun h => nb1 _ h rfl)
                have BA1_1008 := ((hB8.ne Es1 (by omega)).ext EL2).fr EA1 (fun h => nb2 _ h rfl)
                refine lx_value (want rfl) (rn_nilCheck rfl) ?_
                refine lx_set (want rfl) sz_84 rfl (t_slice rfl) rfl rfl rfl BA1_50 (Nat.le_of_ble_eq_true rfl) ?_
                intro w6 Es3 Bs3
                have F8 := F7.new' Es3 (fun k h => by have h : k = b := h; rw [h]; exact (.inl hZb50))
                have hzs3 := Es3.size
                refine lx_nil ?_
                refine wk_region ?_
                refine lx_value (want rfl) (mv_int (A2.at 7 rfl hs1_7)) ?_
                refine lx_value (want rfl) (rn_add rfl rfl (by omega)) ?_
                refine lx_value (want rfl) (as_int rfl) ?_
                refine lx_nil ?_
                exact ⟨rfl, ((((((((((((((((((((((((((((((((((((((((((((((((((((((((A1.up rfl _).up rfl _).up rfl _).up rfl _).up rfl _).up rfl _).up rfl _).up rfl _).up rfl _).up rfl _).up rfl _).up rfl _).up rfl _).up rfl _).none _).none _).up rfl _).up rfl _).up rfl _).up rfl _).up rfl _).up rfl _).up rfl _).up rfl _).up rfl _).up rfl _).up rfl _).up rfl _).up rfl _).up rfl _).up rfl _).loop A2 rfl).up rfl _).up rfl _).up rfl _).up rfl _).up rfl _).up rfl _).up rfl _).up rfl _).up rfl _).up rfl _).up rfl _).up rfl _).up rfl _).up rfl _).up rfl _).up rfl _).up rfl _).up rfl _).up rfl _).up rfl _).none _).up rfl _).up rfl _).up rfl _), Fr.between F0 F8 (by omega), _, (by omega), i + 1, (Lq ++ [(num vq, num wq)]), sq1, cq1, rfl, rfl, (by first | exact Bs3 | (rw [app_len]; exact Bs3)), (by first | exact (ow1.ne Es3 (fun h => ne1_50 _ h rfl)) | exact own_more (ow1.ne Es3 (fun h => ne1_50 _ h rfl)) (by rw [prC, hnv, hnw])), ge1, ne1_50, by have := (List.getElem?_eq_some_iff.1 hv).1; omega, (hon.symm.trans hq), (by rw [app_len]; omega)⟩
    ·
      refine lx_nil ?_
      refine wk_cond_f rfl ?_
      refine wk_exit ?_
      refine wk_seq ?_
      refine wk_region ?_
      refine lx_value (want rfl) (as_bool rfl) ?_
      refine lx_nil ?_
      refine wk_ret ?_
      refine retR1 Tryz.results101 (.tmp (t_bool rfl)) F1 ?_
      exact outC_yes (mp_mk BL1_50 rfl ow1L_2 ne1L_2_50 (.inl hZb50) ge1L_2) ((belB_eq hle).trans (hq.symm.trans (bfs_end hle hlt)))

end Go.Proofs.YtnhgfmbmfjmonaaGreatDoor

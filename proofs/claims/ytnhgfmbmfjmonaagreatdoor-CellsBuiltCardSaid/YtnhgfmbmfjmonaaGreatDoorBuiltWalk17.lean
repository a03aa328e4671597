/- What functions compute: cellsbuilt. -/
import Derived.Test.YtnhgfmbmfjmonaaGreatDoorBuiltFacts
import Derived.Test.YtnhgfmbmfjmonaaGreatDoorBuiltPre
import Derived.Test.YtnhgfmbmfjmonaaGreatDoorBuiltWalk13
import Derived.Test.YtnhgfmbmfjmonaaGreatDoorBuiltWalk15
import Derived.Test.YtnhgfmbmfjmonaaGreatDoorBuiltWalk16
import Derived.Test.YtnhgfmbmfjmonaaGreatDoorBuiltWalk2
import Derived.Test.YtnhgfmbmfjmonaaGreatDoorBuiltWalk4
import Derived.Test.YtnhgfmbmfjmonaaGreatDoorBuiltWalk6
set_option maxRecDepth 100000
set_option linter.unusedVariables false
set_option linter.unusedSimpArgs false
namespace Go.Proofs.YtnhgfmbmfjmonaaGreatDoor
open Go Go.RowKit Go.Mix Go.Eng
set_option maxHeartbeats 4000000 in
set_option maxRecDepth 100000 in
theorem cellsbuilt_ct (L : List (List Int)) (s : Option Addr) (c : Nat) (F : Nat → Prop) (k : Nat) (hk256 : k < 256) (w0 : World) (hl : IIS F w0 s L) :
  CT Tryz.prog 16 [.slice s L.length c, .int .u8 (k : Nat)] w0 no (fun v _ => v = .bool true) := by
 have F0 := Fr.refl no w0
 refine ct_body Tryz.func16 rfl Tryz.ntmps16 (Nat.le_of_ble_eq_true rfl) ?_
 refine wk_seq ?_
 refine wk_region ?_
 refine lx_value (want rfl) (as_bool rfl) ?_
 refine lx_nil ?_
 refine wk_seq ?_
 refine wk_seq ?_
 refine wk_region ?_
 refine lx_value (want rfl) (mv_slice rfl) ?_
 refine lx_value (want rfl) (rn_len Tryz.underlying95 rfl) ?_
 refine lx_value (want rfl) (rn_gtr rfl rfl) ?_
 refine lx_dec (fun h4 => ?_) (fun h4 => ?_)
 ·
  refine lx_nil ?_
  refine wk_cond_t rfl ?_
  refine wk_seq ?_
  refine wk_region ?_
  refine lx_call (want rfl) (ent_func cf_19 args0) (awake_ct w0) ?_
  rintro _ w1 E1 rfl
  have F1 := F0.ext E1
  have hz1 := E1.size
  refine lx_value (want rfl) (as_bool rfl) ?_
  refine lx_nil ?_
  refine wk_ret ?_
  refine retR1 Tryz.results16 (.tmp (t_bool rfl)) F1 ?_
  exact rfl
 ·
  refine lx_nil ?_
  refine wk_cond_f rfl ?_
  refine wk_skip ?_
  refine wk_seq ?_
  refine wk_region ?_
  refine lx_value (want rfl) (as_slice rfl) ?_
  refine lx_nil ?_
  refine wk_seq ?_
  refine wk_seq ?_
  refine wk_region ?_
  refine lx_value (want rfl) (as_int rfl) ?_
  refine lx_nil ?_
  refine wk_block ?_
  refine wk_loopA [4, 5, 6, 7, 22, 23, 24, 25, 26, 27, 28, 29, 30, 31, 32, 33, 34, 35, 36, 37, 38, 39, 40, 41, 42, 43, 44, 45, 46, 47, 48, 49, 50, 51, 52, 53, 54, 55, 56, 57, 58, 59, 60, 61, 62] no (fun nM ρ w => ∃ (i : Nat) (so1_5 : Option Addr) (co1_5 : Nat), nM = L.length - i ∧ ρ 6 = .int .i64 i ∧ ρ 5 = .slice so1_5 ((bitL k i).length) co1_5 ∧ OwnS w 4 1 so1_5 ((bitL k i).length) co1_5 ((bitL k i).flatMap boC) ∧ (∀ k, ob so1_5 k → w0.heap.size ≤ k) ∧ (∀ k, ob so1_5 k → (ob (none : Option Addr) k ∨ w0.heap.size ≤ k)) ∧ (i ≤ L.length) ∧ ((L.take i).all (fun l => decide (l.length ≤ 20)) = true) ∧ ((L.take i).all (fun l => l.all inI) = true)) _ ⟨0, none, 0, rfl, rfl, rfl, (OwnS.nil w0 4 1), (fun _ h => ob_none h), (fun k h => .inl h), Nat.zero_le _, rfl, rfl⟩ ?_
  rintro n1 ρ1 w1 A1 EL1 ⟨i, so1_5, co1_5, rfl, hs1_6, ho1_5, ow1L_5, ge1L_5, bk1L_5, hi, hA, hB⟩
  have F2 := F0.ext EL1
  have hzL1 := EL1.size
  refine wk_seq ?_
  refine wk_seq ?_
  refine wk_region ?_
  refine lx_value (want rfl) (mv_int hs1_6) ?_
  refine lx_value (want rfl) (mv_slice (A1.at 0 rfl rfl)) ?_
  refine lx_value (want rfl) (rn_len Tryz.underlying95 rfl) ?_
  refine lx_value (want rfl) (rn_lss rfl rfl) ?_
  refine lx_dec (fun hlt => ?_) (fun hlt => ?_)
  ·
   obtain ⟨x, hx⟩ := getx hlt
   obtain ⟨bx, ox, hsx, _, sx, cx, hcx, hpx⟩ := hl i x hx
   subst hsx
   refine lx_nil ?_
   refine wk_cond_t rfl ?_
   refine wk_skip ?_
   refine wk_seq ?_
   refine wk_block ?_
   refine wk_seq ?_
   refine wk_region ?_
   refine lx_value (want rfl) (mv_slice ho1_5) ?_
   refine lx_value (want rfl) (mv_int (A1.at 1 rfl rfl)) ?_
   refine lx_value (want rfl) (mv_int hs1_6) ?_
   refine lx_value (want rfl) (rn_conv Tryz.underlying3 Tryz.underlying100 rfl (wrapU64_nat (by omega))) ?_
   refine lx_value (want rfl) (rn_bshr rfl rfl (by omega)) ?_
   refine lx_value (v := .int .u8 ((k / 2 ^ i % 2 : Nat) : Int)) (want rfl) ((rn_remN (n := 2) rfl rfl (by decide))) ?_
   refine lx_value (want rfl) (rn_eql rfl rfl) ?_
   refine lx_newS (want rfl) (rn_bslice (xs := [.tmp 34]) Tryz.underlying96 sz_4 ze_4 rfl (argsC (t_bool rfl) args0) (CL.cons rfl rfl CL.nil) rfl (Nat.le_of_ble_eq_true rfl)) ?_
   intro b1 w2 hb1 Eb1 B1 hlb1
   have F3 := F2.ext Eb1
   have hzb1 := Eb1.size
   have nb1 : ∀ k, ob so1_5 k → k ≠ b1 := fun k hk => by have := (ow1L_5).lt hk; omega
   refine lx_append 1 (want rfl) Tryz.underlying96 ti_4 (by decide) rfl (by decide) rfl rfl (ow1L_5.ext Eb1) ((Src.blk B1 rfl rfl)) (by rw [bitL_len]; omega) ?_
   intro sq2 cq2 w3 AP2
   have EA2 := AP2.fr
   have ow2 := AP2.own
   have ge2 : ∀ k, ob sq2 k → w0.heap.size ≤ k := fun k hk => (AP2.blk k hk).elim (ge1L_5 k) (fun h => (Nat.le_trans F3.size h))
   have ne2_1 : ∀ k, ob sq2 k → k ≠ b1 := fun k hk => (AP2.blk k hk).elim (nb1 k) (fun h => by have := (B1).lt; omega)
   have bk2_1 : ∀ k, ob sq2 k → (ob (none : Option Addr) k ∨ w0.heap.size ≤ k) := fun k hk => (AP2.blk k hk).elim (bk1L_5 k) (fun h => .inr (by omega))
   have F4 := F3.new EA2 ge1L_5
   have hzA2 := EA2.size
   have BA2_1 := B1.fr EA2 (fun h => nb1 _ h rfl)
   refine lx_value (want rfl) (as_slice rfl) ?_
   refine lx_nil ?_
   refine wk_seq ?_
   refine wk_seq ?_
   refine wk_region ?_
   refine lx_value (want rfl) (mv_slice (A1.at 0 rfl rfl)) ?_
   refine lx_value (want rfl) (mv_int hs1_6) ?_
   refine lx_value (want rfl) (rn_index i Tryz.underlying95 sz_77 rfl rfl rfl (by omega)) ?_
   refine lx_value (want rfl) (rn_load1 ag_77 rfl (F4.cell (fun h => h) hcx)) ?_
   refine lx_value (want rfl) (rn_len Tryz.underlying77 rfl) ?_
   refine lx_value (want rfl) (rn_gtr rfl rfl) ?_
   refine lx_dec (fun h20 => ?_) (fun h20 => ?_)
   ·
    refine lx_nil ?_
    refine wk_cond_t rfl ?_
    refine wk_seq ?_
    refine wk_region ?_
    refine lx_call (want rfl) (ent_func cf_19 args0) (awake_ct w3) ?_
    rintro _ w4 E2 rfl
    have F5 := F4.ext E2
    have hz2 := E2.size
    refine lx_value (want rfl) (as_bool rfl) ?_
    refine lx_nil ?_
    refine wk_ret ?_
    refine retR1 Tryz.results16 (.tmp (t_bool rfl)) F5 ?_
    exact rfl
   ·
    refine lx_nil ?_
    refine wk_cond_f rfl ?_
    refine wk_skip ?_
    refine wk_seq ?_
    refine wk_region ?_
    refine lx_value (want rfl) (as_int rfl) ?_
    refine lx_nil ?_
    refine wk_block ?_
    refine wk_loopA [4, 7, 44, 45, 46, 47, 48, 49, 50, 51, 52, 53, 54, 55, 56, 57, 58, 59, 60, 61, 62] no (fun nM ρ w => ∃ (j : Nat), nM = x.length - j ∧ ρ 7 = .int .i64 j ∧ (j ≤ x.length) ∧ ((x.take j).all inI = true)) _ ⟨0, rfl, rfl, Nat.zero_le _, rfl⟩ ?_
    rintro n2 ρ2 w4 A2 EL2 ⟨j, rfl, hs2_7, hj, hC⟩
    have F6 := F4.ext EL2
    have hzL2 := EL2.size
    refine wk_seq ?_
    refine wk_seq ?_
    refine wk_region ?_
    refine lx_value (want rfl) (mv_int hs2_7) ?_
    refine lx_value (want rfl) (mv_slice (A2.at 0 rfl (A1.at 0 rfl rfl))) ?_
    refine lx_value (want rfl) (mv_int (A2.at 6 rfl hs1_6)) ?_
    refine lx_value (want rfl) (rn_index i Tryz.underlying95 sz_77 rfl rfl rfl (by omega)) ?_
    refine lx_value (want rfl) (rn_load1 ag_77 rfl (F6.cell (fun h => h) hcx)) ?_
    refine lx_value (want rfl) (rn_len Tryz.underlying77 rfl) ?_
    refine lx_value (want rfl) (rn_lss rfl rfl) ?_
    refine lx_dec (fun hlt2 => ?_) (fun hlt2 => ?_)
    ·
     obtain ⟨y, hy⟩ := getx hlt2
     obtain ⟨by_, oy, hsy, _, hcy⟩ := hpx j y hy
     subst hsy
     refine lx_nil ?_
     refine wk_cond_t rfl ?_
     refine wk_skip ?_
     refine wk_seq ?_
     refine wk_block ?_
     refine wk_seq ?_
     refine wk_region ?_
     refine lx_value (want rfl) (mv_slice (A2.at 0 rfl (A1.at 0 rfl rfl))) ?_
     refine lx_value (want rfl) (mv_int (A2.at 6 rfl hs1_6)) ?_
     refine lx_value (want rfl) (rn_index i Tryz.underlying95 sz_77 rfl rfl rfl (by omega)) ?_
     refine lx_value (want rfl) (rn_load1 ag_77 rfl (F6.cell (fun h => h) hcx)) ?_
     refine lx_value (want rfl) (mv_int hs2_7) ?_
     refine lx_value (want rfl) (rn_index j Tryz.underlying77 sz_3 rfl rfl rfl (by omega)) ?_
     refine lx_value (want rfl) (rn_load1 ag_3 rfl (F6.cell (fun h => h) (hcy 0 _ rfl))) ?_
     refine lx_call (want rfl) (ent_func cf_65 (argsC (t_int rfl) (argsC (t_int rfl) (argsC (t_int rfl) args0)))) (in_ct _ _ _ w4) ?_
     rintro _ w5 E3 rfl
     have F7 := F6.ext E3
     have hz3 := E3.size
     refine lx_split (fun hin => ?_) (fun hin => ?_)
     ·
      refine lx_value (want rfl) (rn_not rfl) ?_
      refine lx_nil ?_
      refine wk_cond_f rfl ?_
      refine wk_skip ?_
      refine wk_region ?_
      refine lx_value (want rfl) (mv_int hs2_7) ?_
      refine lx_value (want rfl) (rn_add rfl rfl (by omega)) ?_
      refine lx_value (want rfl) (as_int rfl) ?_
      refine lx_nil ?_
      exact ⟨rfl, (((((((((((((((((((A2.up rfl _).up rfl _).up rfl _).up rfl _).up rfl _).up rfl _).up rfl _).up rfl _).up rfl _).up rfl _).up rfl _).up rfl _).up rfl _).up rfl _).up rfl _).up rfl _).up rfl _).up rfl _).up rfl _), (Fr.ext EL2 E3), _, (by omega), j + 1, rfl, rfl, by omega, (all_step hC hy hin)⟩
     ·
      refine lx_value (want rfl) (rn_not rfl) ?_
      refine lx_nil ?_
      refine wk_cond_t rfl ?_
      refine wk_seq ?_
      refine wk_region ?_
      refine lx_call (want rfl) (ent_func cf_19 args0) (awake_ct w5) ?_
      rintro _ w6 E4 rfl
      have F8 := F7.ext E4
      have hz4 := E4.size
      refine lx_value (want rfl) (as_bool rfl) ?_
      refine lx_nil ?_
      refine wk_ret ?_
      refine retR1 Tryz.results16 (.tmp (t_bool rfl)) F8 ?_
      exact rfl
    ·
     refine lx_nil ?_
     refine wk_cond_f rfl ?_
     refine wk_exit ?_
     refine wk_region ?_
     refine lx_value (want rfl) (mv_int (A2.at 6 rfl hs1_6)) ?_
     refine lx_value (want rfl) (rn_add rfl rfl (by omega)) ?_
     refine lx_value (want rfl) (as_int rfl) ?_
     refine lx_nil ?_
     exact ⟨rfl, ((((((((((((((((((((((((((((((((A1.up rfl _).up rfl _).up rfl _).up rfl _).up rfl _).up rfl _).up rfl _).up rfl _).up rfl _).up rfl _).up rfl _).up rfl _).up rfl _).up rfl _).up rfl _).up rfl _).up rfl _).up rfl _).up rfl _).up rfl _).up rfl _).loop A2 rfl).up rfl _).up rfl _).up rfl _).up rfl _).up rfl _).up rfl _).up rfl _).up rfl _).up rfl _).up rfl _), (Fr.ext (Fr.trans (Fr.ext EL1 Eb1) EA2 (fun i hi1 h => ((bk1L_5 _ h).elim (fun h => (ob_none h)) (fun h => absurd hi1 (by omega))))) EL2), _, (by omega), i + 1, sq2, cq2, rfl, rfl, (by rw [bitL_on]; exact slot_app (A2.at 5 rfl rfl)), (by rw [bitL_on]; exact own_more (ow2.ext EL2) rfl), ge2, bk2_1, by omega, (all_step hA hx (decide_eq_true (by omega))), (all2 hB hx (all_end hC hlt2))⟩
  ·
   have hAL := all2_end hB hlt
   have hA4 := all_end hA hlt
   have h4L : sumI L ≤ 400 := by have := su_404 hA4; have h7 : 20 * L.length ≤ 20 * 4 := Nat.mul_le_mul_left _ (by omega); omega
   have hLl : ∀ l ∈ L, l.length ≤ 1048576 := fun l hl => by have := of_decide_eq_true (List.all_eq_true.1 hA4 l hl); omega
   have hCl : (bitL k i).length = L.length := by rw [bitL_len]; omega
   have hE := built_E hCl hAL h4L
   have hDr := built_draw hAL h4L (by omega) (bitL k i)
   have hBp := built_Bp hAL h4L (by omega) (bitL k i)
   have hBm := okM_Bm (built_ok hAL h4L (bitL k i))
   have hl2 : (buildF 0 L (bitL k i)).2.length = L.length := (buildF_len L 0 _).2
   refine lx_nil ?_
   refine wk_cond_f rfl ?_
   refine wk_exit ?_
   refine wk_seq ?_
   refine wk_region ?_
   refine lx_value (want rfl) (mv_slice (A1.at 0 rfl rfl)) ?_
   refine lx_newS (want rfl) (rn_bslice (xs := []) Tryz.underlying96 sz_4 ze_4 rfl args0 CL.nil rfl (Nat.le_of_ble_eq_true rfl)) ?_
   intro b2 w2 hb2 Eb2 B2 hlb2
   have F9 := F2.ext Eb2
   have hzb2 := Eb2.size
   have nb2 : ∀ k, ob so1_5 k → k ≠ b2 := fun k hk => by have := (ow1L_5).lt hk; omega
   refine lx_value (want rfl) (mv_slice ho1_5) ?_
   refine lx_append0 1 (want rfl) Tryz.underlying96 ti_4 (by decide) rfl (by decide) rfl rfl (OwnS.full (n := 0) (size := 1) B2 rfl (by decide)) ((OwnS.sl (l := (bitL k i)) (cells := boC) (F := fun _ => True) (ow1L_5.ext Eb2) (by decide) rfl (fun _ _ => rfl) (fun _ _ => trivial)).src (fun _ _ => rfl) (fun _ _ u hu => bo_one hu) (by decide)) (by omega) (fun sA4 cA4 w3 hOA4 EA4 hKA4 => ?_)
   have F10 := F9.ext EA4
   have hzA4 := EA4.size
   have hgA4 : ∀ k, ob sA4 k → w1.heap.size ≤ k := fun k hk => (hKA4 k hk).elim (fun h => by have := ob_some h; omega) (fun h => by omega)
   have ge3 : ∀ k, ob sA4 k → w0.heap.size ≤ k := fun k hk => (by have := hgA4 k hk; omega)
   have sp3_5 : ∀ k, ob sA4 k → ob so1_5 k → False := fun k hk h2 => by have := hgA4 k hk; have := (ow1L_5).lt h2; omega
   refine lx_call (want rfl) (ent_func cf_63 (argsC (t_slice rfl) (argsC (t_slice rfl) args0))) ((build_lit hE (pBuild_ct L s c F (bitL k i) sA4 cA4 (fun _ => True) (by omega) hLl (by omega) w3 (hl.fr (ii_stab _) F10 (fun _ _ h => h)) (OwnS.sl (l := (bitL k i)) (cells := boC) (F := fun _ => True) hOA4 (by decide) rfl (fun _ _ => rfl) (fun _ _ => trivial))))) ?_
   rintro _ w4 E5 ⟨sR, nR, cR, sv, cv, rfl, rfl, hM1, hV1⟩
   have F11 := F10.ext E5
   have hz5 := E5.size
   refine lx_value (want rfl) (mv_tuple rfl) ?_
   refine lx_value (want rfl) (rn_extract rfl rfl) ?_
   refine lx_value (want rfl) (rn_extract rfl rfl) ?_
   refine lx_value (want rfl) (rn_extract rfl rfl) ?_
   refine lx_new (want rfl) (rn_alloc ze_24) ?_
   intro b3 w5 hb3 Eb3 B3 hlb3
   have F12 := F11.ext Eb3
   have hzb3 := Eb3.size
   have nb3 : ∀ k, ob so1_5 k → k ≠ b3 := fun k hk => by have := (ow1L_5).lt hk; omega
   have nb4 : ∀ k, ob sA4 k → k ≠ b3 := fun k hk => by have := (hOA4).lt hk; omega
   refine lx_set (want rfl) sz_24 rfl (t_agg rfl) rfl rfl rfl B3 (Nat.le_of_ble_eq_true rfl) ?_
   intro w6 Es1 Bs1
   have F13 := F12.set Es1 (by omega)
   have hzs1 := Es1.size
   refine lx_value (want rfl) (as_slice rfl) ?_
   refine lx_value (want rfl) (as_int rfl) ?_
   refine lx_nil ?_
   refine wk_seq ?_
   refine wk_region ?_
   refine lx_value (want rfl) (rn_loadBlk ag_24 sz_24 rfl Bs1 rfl rfl) ?_
   refine lx_value (want rfl) (mv_slice rfl) ?_
   refine lx_call (want rfl) (ent_func cf_30 (argsC (t_agg rfl) (argsC (t_slice rfl) args0))) ((draw_lit hDr (pDraw_ct (memC (buildF 0 L (bitL k i)).1) sR cR _ hBm (buildF 0 L (bitL k i)).2 sv cv _ (by omega) w6 (hM1.fr (st_stab _) (Fr.trans (Fr.ext (Fr.refl (fun k => k = b3) w4) Eb3) Es1 (fun k _ h => h)) (fun k hk h => by have hk1 := hk.1; have hk2 := hk.2; (try dsimp only at h hk1 hk2); first | exact h.elim | omega | (rcases (show _ ∨ _ from h) with h | h <;> omega))) (hV1.fr (vl_stab _) (Fr.trans (Fr.ext (Fr.refl (fun k => k = b3) w4) Eb3) Es1 (fun k _ h => h)) (fun k hk h => by have hk1 := hk.1; have hk2 := hk.2; (try dsimp only at h hk1 hk2); first | exact h.elim | omega | (rcases (show _ ∨ _ from h) with h | h <;> omega)))))) ?_
   rintro _ w7 E6 ⟨_, rfl, sV, cV, sK, cK, rfl, hPv, hPc⟩
   have F14 := F13.ext E6
   have hz6 := E6.size
   refine lx_value (want rfl) (mv_tuple rfl) ?_
   refine lx_value (want rfl) (rn_extract rfl rfl) ?_
   refine lx_value (want rfl) (rn_extract rfl rfl) ?_
   refine lx_new (want rfl) (rn_alloc ze_45) ?_
   intro b4 w8 hb4 Eb4 B4 hlb4
   have F15 := F14.ext Eb4
   have hzb4 := Eb4.size
   have nb5 : ∀ k, ob so1_5 k → k ≠ b4 := fun k hk => by have := (ow1L_5).lt hk; omega
   have nb6 : ∀ k, ob sA4 k → k ≠ b4 := fun k hk => by have := (hOA4).lt hk; omega
   refine lx_set (want rfl) sz_45 rfl (t_agg rfl) rfl rfl rfl B4 (Nat.le_of_ble_eq_true rfl) ?_
   intro w9 Es2 Bs2
   have F16 := F15.set Es2 (by omega)
   have hzs2 := Es2.size
   refine lx_value (want rfl) (as_int rfl) ?_
   refine lx_nil ?_
   refine wk_seq ?_
   refine wk_seq ?_
   refine wk_region ?_
   refine lx_value (want rfl) (mv_int rfl) ?_
   refine lx_value (want rfl) (rn_neq rfl rfl) ?_
   refine lx_dec_f ((fun h => h rfl)) ?_
   refine lx_value (want rfl) (mv_bool rfl) ?_
   refine lx_value (want_if (j := 2) (d := 80) (x := false) (y := false) rfl rfl (by decide) rfl) (mv_int rfl) ?_
   refine lx_value (want_if (j := 2) (d := 80) (x := false) (y := false) rfl rfl (by decide) rfl) (rn_neq rfl rfl) ?_
   refine lx_dec_f ((fun h => h rfl)) ?_
   refine lx_value (want rfl) (pick_f rfl rfl) ?_
   refine lx_value (want rfl) (mv_bool rfl) ?_
   refine lx_value (want_if (j := 6) (d := 84) (x := false) (y := false) rfl rfl (by decide) rfl) (mv_slice rfl) ?_
   refine lx_value (want_if (j := 6) (d := 84) (x := false) (y := false) rfl rfl (by decide) rfl) (rn_len Tryz.underlying30 rfl) ?_
   refine lx_value (want_if (j := 6) (d := 84) (x := false) (y := false) rfl rfl (by decide) rfl) (mv_slice (A1.at 0 rfl rfl)) ?_
   refine lx_value (want_if (j := 6) (d := 84) (x := false) (y := false) rfl rfl (by decide) rfl) (rn_len Tryz.underlying95 rfl) ?_
   refine lx_value (want_if (j := 6) (d := 84) (x := false) (y := false) rfl rfl (by decide) rfl) (rn_neq rfl rfl) ?_
   refine lx_dec_f ((by (try dsimp only); omega)) ?_
   refine lx_value (want rfl) (pick_f rfl rfl) ?_
   refine lx_nil ?_
   refine wk_cond_f rfl ?_
   refine wk_skip ?_
   refine wk_seq ?_
   refine wk_seq ?_
   refine wk_region ?_
   refine lx_value (want rfl) (as_int rfl) ?_
   refine lx_nil ?_
   refine wk_block ?_
   refine wk_loopA [4, 13, 14, 15, 16, 17, 91, 92, 93, 94, 95, 96, 97, 98, 99, 100, 101, 102, 103, 104, 105, 106, 107, 108, 109, 110, 111, 112, 113, 114, 115, 116, 117, 118, 119, 120, 121, 122, 123, 124, 125, 126, 127, 128, 129, 130, 131, 132, 133, 134, 135, 136, 137, 138, 139, 140, 141, 142, 143, 144, 145, 146, 147, 148, 149, 150, 151, 152, 153, 154] no (fun nM ρ w => ∃ (j : Nat), nM = L.length - j ∧ ρ 13 = .int .i64 j ∧ (j ≤ L.length)) _ ⟨0, rfl, rfl, Nat.zero_le _⟩ ?_
   rintro n3 ρ3 w10 A3 EL3 ⟨j, rfl, hs3_13, hj⟩
   have F17 := F16.ext EL3
   have hzL3 := EL3.size
   refine wk_seq ?_
   refine wk_seq ?_
   refine wk_region ?_
   refine lx_value (want rfl) (mv_int hs3_13) ?_
   refine lx_value (want rfl) (mv_slice (A3.at 0 rfl (A1.at 0 rfl rfl))) ?_
   refine lx_value (want rfl) (rn_len Tryz.underlying95 rfl) ?_
   refine lx_value (want rfl) (rn_lss rfl rfl) ?_
   refine lx_dec (fun hlt4 => ?_) (fun hlt4 => ?_)
   ·
    obtain ⟨x, hx⟩ := getx hlt4
    obtain ⟨bx, ox, hsx, _, sx, cx, hcx, hpx⟩ := hl j x hx
    subst hsx
    have hxl := hLl x (List.mem_of_getElem? hx)
    obtain ⟨cq, hcq⟩ : ∃ q, (bitL k i)[j]? = some q := ⟨_, List.getElem?_eq_getElem (by omega)⟩
    have hbq := bitL_at hcq
    have hst := built_str hAL h4L (by omega) (bitL k i) hx
    refine lx_nil ?_
    refine wk_cond_t rfl ?_
    refine wk_skip ?_
    refine wk_seq ?_
    refine wk_block ?_
    refine wk_seq ?_
    refine wk_region ?_
    rcases (bool_two ((bitL k i).getD j false)) with hcz | hcz
    ·
     refine lx_value (want rfl) (rn_loadBlk ag_45 sz_45 (A3.at 11 rfl rfl) (Bs2.ext EL3) rfl rfl) ?_
     refine lx_call (want rfl) (ent_func cf_29 (argsC (t_agg rfl) args0)) (copypic_ct (picB L (bitL k i)) sV cV sK cK _ hBp w10 (hPv.fr (vl_stab _) (Fr.ext (Fr.trans (Fr.ext (Fr.refl (fun k => k = b4) w7) Eb4) Es2 (fun k _ h => h)) EL3) (fun k hk h => by have hk1 := hk.1; have hk2 := hk.2; (try dsimp only at h hk1 hk2); first | exact h.elim | omega | (rcases (show _ ∨ _ from h) with h | h <;> omega))) (hPc.fr (vv_stab _) (Fr.ext (Fr.trans (Fr.ext (Fr.refl (fun k => k = b4) w7) Eb4) Es2 (fun k _ h => h)) EL3) (fun k hk h => by have hk1 := hk.1; have hk2 := hk.2; (try dsimp only at h hk1 hk2); first | exact h.elim | omega | (rcases (show _ ∨ _ from h) with h | h <;> omega)))) ?_
     rintro _ w11 E7 ⟨sA, cA, sB, cB, rfl, hPV, hPC⟩
     have F18 := F17.ext E7
     have hz7 := E7.size
     refine lx_value (want rfl) (mv_int hs3_13) ?_
     refine lx_call (want rfl) (ent_func cf_49 (argsC (t_agg rfl) (argsC (t_int rfl) args0))) ((str_lit (r := (0, x, ((3, 0) : Vl))) (hst.trans (by rw [hcz]; rfl)) (pStream_ct (picB L (bitL k i)) sA cA sB cB _ hBp (j : Int) w11 (hPV.fr (vl_stab _) (Fr.refl no w11) (fun k hk h => by have hk1 := hk.1; have hk2 := hk.2; (try dsimp only at h hk1 hk2); first | exact h.elim | omega | (rcases (show _ ∨ _ from h) with h | h <;> omega))) (hPC.fr (vv_stab _) (Fr.refl no w11) (fun k hk h => by have hk1 := hk.1; have hk2 := hk.2; (try dsimp only at h hk1 hk2); first | exact h.elim | omega | (rcases (show _ ∨ _ from h) with h | h <;> omega)))))) ?_
     rintro _ w12 E8 ⟨sT, cT, rfl, hT⟩
     have F19 := F18.ext E8
     have hz8 := E8.size
     refine lx_value (want rfl) (mv_tuple rfl) ?_
     refine lx_value (want rfl) (rn_extract rfl rfl) ?_
     refine lx_value (want rfl) (rn_extract rfl rfl) ?_
     refine lx_value (want rfl) (rn_extract rfl rfl) ?_
     refine lx_new (want rfl) (rn_alloc ze_36) ?_
     intro b5 w13 hb5 Eb5 B5 hlb5
     have F20 := F19.ext Eb5
     have hzb5 := Eb5.size
     have nb7 : ∀ k, ob so1_5 k → k ≠ b5 := fun k hk => by have := (ow1L_5).lt hk; omega
     have nb8 : ∀ k, ob sA4 k → k ≠ b5 := fun k hk => by have := (hOA4).lt hk; omega
     refine lx_value (want rfl) (as_slice rfl) ?_
     refine lx_set (want rfl) sz_36 rfl (t_agg rfl) rfl rfl rfl B5 (Nat.le_of_ble_eq_true rfl) ?_
     intro w14 Es3 Bs3
     have F21 := F20.set Es3 (by omega)
     have hzs3 := Es3.size
     refine lx_value (want rfl) (as_int rfl) ?_
     refine lx_nil ?_
     refine wk_seq ?_
     refine wk_seq ?_
     obtain ⟨bO, oO, hsO, _, hcO⟩ := OwnS.sl (l := (bitL k i)) (cells := boC) (F := fun _ => True) (((((((((((((ow1L_5.ext Eb2).ext EA4).ext E5).ext Eb3).ne Es1 (fun h => nb3 _ h rfl)).ext E6).ext Eb4).ne Es2 (fun h => nb5 _ h rfl)).ext EL3).ext E7).ext E8).ext Eb5).ne Es3 (fun h => nb7 _ h rfl)) (by decide) rfl (fun _ _ => rfl) (fun _ _ => trivial) j cq hcq
     refine wk_mix 30 (fun kS => match kS with | 18 => .val (.agg #[.int .u8 3, .int .i64 0]) | 24 => .val (.agg #[.int .u8 3, .int .i64 0]) | _ => .none) (by kernel_rfl) (by kernel_rfl) (by intro kS G hk; (try dsimp only at hk); (split at hk) <;> first | (cases hk; done) | (injection hk with hk; subst hk; exact ⟨by intro j hkj I v w w' hR hG; first | exact hG, fun ⟨_, _, _, _, hs⟩ => by (try dsimp only at hs); split at hs <;> cases hs⟩)) (by intro kS s y G hk; (try dsimp only at hk); split at hk <;> cases hk) ?_
     simp only [List.take_succ_cons, List.take_zero, List.take_nil, List.drop_succ_cons, List.drop_zero, List.drop_nil]
     refine mx_calm rfl (want rfl) (fun u1 eu1 fu1 => mv_int rfl) ?_
     refine mx_calm rfl (want rfl) (fun u2 eu2 fu2 => rn_neq rfl rfl) ?_
     refine mx_dec_f ((fun h => h rfl)) ?_
     refine mx_calm rfl (want rfl) (fun u3 eu3 fu3 => mv_bool rfl) ?_
     refine mx_calm rfl (want_if (j := 2) (d := 107) (x := false) (y := false) rfl rfl (by decide) rfl) (fun u4 eu4 fu4 => mv_slice rfl) ?_
     refine mx_calm rfl (want_if (j := 2) (d := 107) (x := false) (y := false) rfl rfl (by decide) rfl) (fun u5 eu5 fu5 => rn_len Tryz.underlying77 rfl) ?_
     refine mx_calm rfl (want_if (j := 2) (d := 107) (x := false) (y := false) rfl rfl (by decide) rfl) (fun u6 eu6 fu6 => mv_slice (A3.at 0 rfl (A1.at 0 rfl rfl))) ?_
     refine mx_calm rfl (want_if (j := 2) (d := 107) (x := false) (y := false) rfl rfl (by decide) rfl) (fun u7 eu7 fu7 => mv_int hs3_13) ?_
     refine mx_calm rfl (want_if (j := 2) (d := 107) (x := false) (y := false) rfl rfl (by decide) rfl) (fun u8 eu8 fu8 => rn_index j Tryz.underlying95 sz_77 rfl rfl rfl (by omega)) ?_
     refine mx_calm rfl (want_if (j := 2) (d := 107) (x := false) (y := false) rfl rfl (by decide) rfl) (fun u9 eu9 fu9 => rn_load1 ag_77 rfl ((F21.ext ((ext_drawn _).trans' eu9)).cell (fun h => h) hcx)) ?_
     refine mx_calm rfl (want_if (j := 2) (d := 107) (x := false) (y := false) rfl rfl (by decide) rfl) (fun u10 eu10 fu10 => rn_len Tryz.underlying77 rfl) ?_
     refine mx_calm rfl (want_if (j := 2) (d := 107) (x := false) (y := false) rfl rfl (by decide) rfl) (fun u11 eu11 fu11 => rn_neq rfl rfl) ?_
     refine mx_dec_f ((fun h => h rfl)) ?_
     refine mx_calm rfl (want rfl) (fun u12 eu12 fu12 => pick_f rfl rfl) ?_
     refine mx_calm rfl (want rfl) (fun u13 eu13 fu13 => mv_bool rfl) ?_
     refine mx_calm rfl (want_if (j := 12) (d := 117) (x := false) (y := false) rfl rfl (by decide) rfl) (fun u14 eu14 fu14 => rn_loadBlk ag_36 sz_36 rfl (Bs3.ext ((ext_drawn _).trans' eu14)) rfl rfl) ?_
     refine mx_calm rfl (want_if (j := 12) (d := 117) (x := false) (y := false) rfl rfl (by decide) rfl) (fun u15 eu15 fu15 => rn_build0  (fun w => bd_36  w)) ?_
     refine mx_calm rfl (want_if (j := 12) (d := 117) (x := false) (y := false) rfl rfl (by decide) rfl) (fun u16 eu16 fu16 => rn_cmpS (t_agg rfl) (t_agg rfl) (gneq_36 _ _ _ _) (neq_36 _ _ _ _)) ?_
     refine mx_dec_t ((show ¬ ((3 : Int) = 0 ∧ (0 : Int) = 0) by decide)) ?_
     refine mx_calm rfl (want_if (j := 12) (d := 117) (x := false) (y := false) rfl rfl (by decide) rfl) (fun u17 eu17 fu17 => mv_bool rfl) ?_
     refine mx_calm rfl (want_if (j := 16) (d := 121) (x := true) (y := true) rfl rfl (by decide) rfl) (fun u18 eu18 fu18 => rn_loadBlk ag_36 sz_36 rfl (Bs3.ext ((ext_drawn _).trans' eu18)) rfl rfl) ?_
     refine mx_val rfl (want_if (j := 16) (d := 121) (x := true) (y := true) rfl rfl (by decide) rfl) (fun u19 eu19 fu19 => do_call (ent_func cf_66 args0) (nil_ct u19) (fun _ _ E h => ⟨E, h⟩)) ?_
     refine mx_calm rfl (want_if (j := 16) (d := 121) (x := true) (y := true) rfl rfl (by decide) rfl) (fun u20 eu20 fu20 => rn_cmpS (t_agg rfl) (t_agg rfl) (gneq_36 _ _ _ _) (neq_36 _ _ _ _)) ?_
     refine mx_dec_f ((fun h => h ⟨rfl, rfl⟩)) ?_
     refine mx_calm rfl (want_if (j := 12) (d := 117) (x := false) (y := false) rfl rfl (by decide) rfl) (fun u21 eu21 fu21 => pick_t rfl rfl) ?_
     refine mx_calm rfl (want rfl) (fun u22 eu22 fu22 => pick_f rfl rfl) ?_
     refine mx_calm rfl (want rfl) (fun u23 eu23 fu23 => mv_bool rfl) ?_
     refine mx_calm rfl (want_if (j := 22) (d := 127) (x := false) (y := false) rfl rfl (by decide) rfl) (fun u24 eu24 fu24 => rn_loadBlk ag_36 sz_36 rfl (Bs3.ext ((ext_drawn _).trans' eu24)) rfl rfl) ?_
     refine mx_val rfl (want_if (j := 22) (d := 127) (x := false) (y := false) rfl rfl (by decide) rfl) (fun u25 eu25 fu25 => do_call (ent_func cf_66 args0) (nil_ct u25) (fun _ _ E h => ⟨E, h⟩)) ?_
     refine mx_calm rfl (want_if (j := 22) (d := 127) (x := false) (y := false) rfl rfl (by decide) rfl) (fun u26 eu26 fu26 => rn_cmpS (t_agg rfl) (t_agg rfl) (geql_36 _ _ _ _) (eql_36 _ _ _ _)) ?_
     refine mx_calm rfl (want_if (j := 22) (d := 127) (x := false) (y := false) rfl rfl (by decide) rfl) (fun u27 eu27 fu27 => mv_slice (A3.at 5 rfl ho1_5)) ?_
     refine mx_calm rfl (want_if (j := 22) (d := 127) (x := false) (y := false) rfl rfl (by decide) rfl) (fun u28 eu28 fu28 => mv_int hs3_13) ?_
     refine mx_calm rfl (want_if (j := 22) (d := 127) (x := false) (y := false) rfl rfl (by decide) rfl) (fun u29 eu29 fu29 => rn_index j Tryz.underlying96 sz_4 ((rfl).trans (congrArg (fun q => Value.slice q _ _) hsO)) rfl rfl (by omega)) ?_
     refine mx_calm rfl (want_if (j := 22) (d := 127) (x := false) (y := false) rfl rfl (by decide) rfl) (fun u30 eu30 fu30 => rn_load1 ag_4 rfl (((ext_drawn _).trans' eu30).cell (fun h => h) (hcO 0 _ rfl))) ?_
     refine mx_nil (fun w15 E9' H1 HS => ?_)
     have E9 := (ext_drawn _).trans' E9'
     have F22 := F21.ext E9
     have hz9 := E9.size
     refine lx_value (want_if (j := 22) (d := 127) (x := false) (y := false) rfl rfl (by decide) rfl) (rn_neqB Tryz.underlying4 rfl rfl) ?_
     refine lx_dec_f ((fun h => h (hcz.symm.trans hbq))) ?_
     refine lx_value (want rfl) (pick_f rfl rfl) ?_
     refine lx_nil ?_
     refine wk_cond_f rfl ?_
     refine wk_skip ?_
     refine wk_seq ?_
     refine wk_region ?_
     refine lx_value (want rfl) (as_int rfl) ?_
     refine lx_nil ?_
     refine wk_block ?_
     refine wk_loopA [4, 17, 137, 138, 139, 140, 141, 142, 143, 144, 145, 146, 147, 148, 149, 150, 151, 152, 153, 154] no (fun nM ρ w => ∃ (q : Nat), nM = x.length - q ∧ ρ 17 = .int .i64 q ∧ (q ≤ x.length)) _ ⟨0, rfl, rfl, Nat.zero_le _⟩ ?_
     rintro n4 ρ4 w16 A4 EL4 ⟨q, rfl, hs4_17, hq⟩
     have F23 := F22.ext EL4
     have hzL4 := EL4.size
     refine wk_seq ?_
     refine wk_seq ?_
     refine wk_region ?_
     refine lx_value (want rfl) (mv_int hs4_17) ?_
     refine lx_value (want rfl) (mv_slice (A4.at 14 rfl rfl)) ?_
     refine lx_value (want rfl) (rn_len Tryz.underlying77 rfl) ?_
     refine lx_value (want rfl) (rn_lss rfl rfl) ?_
     refine lx_dec (fun hlt5 => ?_) (fun hlt5 => ?_)
     ·
      obtain ⟨y, hy⟩ := getx hlt5
      obtain ⟨b1_, o1_, hs1, _, hc1⟩ := (hT.fr (int_stab _) (Fr.ext (Fr.ext (Fr.trans (Fr.ext (Fr.refl (fun k => k = b5) w12) Eb5) Es3 (fun k _ h => h)) E9) EL4) (fun k hk h => by have hk1 := hk.1; have hk2 := hk.2; (try dsimp only at h hk1 hk2); first | exact h.elim | omega | (rcases (show _ ∨ _ from h) with h | h <;> omega))) q y hy
      subst hs1
      obtain ⟨by_, oy, hsy, _, hcy⟩ := hpx q y hy
      subst hsy
      refine lx_nil ?_
      refine wk_cond_t rfl ?_
      refine wk_skip ?_
      refine wk_seq ?_
      refine wk_block ?_
      refine wk_seq ?_
      refine wk_mix 11 (fun _ => .none) (by kernel_rfl) (by kernel_rfl) (fun kS G hk => by cases hk) (fun kS s y G hk => by cases hk) ?_
      simp only [List.take_succ_cons, List.take_zero, List.take_nil, List.drop_succ_cons, List.drop_zero, List.drop_nil]
      refine mx_calm rfl (want rfl) (fun u31 eu31 fu31 => mv_slice (A4.at 14 rfl rfl)) ?_
      refine mx_calm rfl (want rfl) (fun u32 eu32 fu32 => mv_int hs4_17) ?_
      refine mx_calm rfl (want rfl) (fun u33 eu33 fu33 => rn_index q Tryz.underlying77 sz_3 rfl rfl rfl (by omega)) ?_
      refine mx_calm rfl (want rfl) (fun u34 eu34 fu34 => rn_load1 ag_3 rfl (((ext_drawn _).trans' eu34).cell (fun h => h) (hc1 0 _ rfl))) ?_
      refine mx_calm rfl (want rfl) (fun u35 eu35 fu35 => mv_slice (A4.at 0 rfl (A3.at 0 rfl (A1.at 0 rfl rfl)))) ?_
      refine mx_calm rfl (want rfl) (fun u36 eu36 fu36 => mv_int (A4.at 13 rfl hs3_13)) ?_
      refine mx_calm rfl (want rfl) (fun u37 eu37 fu37 => rn_index j Tryz.underlying95 sz_77 rfl rfl rfl (by omega)) ?_
      refine mx_calm rfl (want rfl) (fun u38 eu38 fu38 => rn_load1 ag_77 rfl ((F23.ext ((ext_drawn _).trans' eu38)).cell (fun h => h) hcx)) ?_
      refine mx_calm rfl (want rfl) (fun u39 eu39 fu39 => mv_int hs4_17) ?_
      refine mx_calm rfl (want rfl) (fun u40 eu40 fu40 => rn_index q Tryz.underlying77 sz_3 rfl rfl rfl (by omega)) ?_
      refine mx_calm rfl (want rfl) (fun u41 eu41 fu41 => rn_load1 ag_3 rfl ((F23.ext ((ext_drawn _).trans' eu41)).cell (fun h => h) (hcy 0 _ rfl))) ?_
      refine mx_nil (fun w17 E10' H2 HS => ?_)
      have E10 := (ext_drawn _).trans' E10'
      have F24 := F23.ext E10
      have hz10 := E10.size
      refine lx_value (want rfl) (rn_neq rfl rfl) ?_
      refine lx_dec_f ((fun h => h rfl)) ?_
      refine lx_nil ?_
      refine wk_cond_f rfl ?_
      refine wk_skip ?_
      refine wk_region ?_
      refine lx_value (want rfl) (mv_int hs4_17) ?_
      refine lx_value (want rfl) (rn_add rfl rfl (by omega)) ?_
      refine lx_value (want rfl) (as_int rfl) ?_
      refine lx_nil ?_
      exact ⟨rfl, (((((((((((((((((((A4.up rfl _).up rfl _).up rfl _).up rfl _).up rfl _).up rfl _).up rfl _).up rfl _).up rfl _).up rfl _).up rfl _).up rfl _).up rfl _).up rfl _).up rfl _).up rfl _).up rfl _).up rfl _).up rfl _), (Fr.ext EL4 E10), _, (by omega), q + 1, rfl, rfl, by omega⟩
     ·
      refine lx_nil ?_
      refine wk_cond_f rfl ?_
      refine wk_exit ?_
      refine wk_region ?_
      refine lx_value (want rfl) (mv_int (A4.at 13 rfl hs3_13)) ?_
      refine lx_value (want rfl) (rn_add rfl rfl (by omega)) ?_
      refine lx_value (want rfl) (as_int rfl) ?_
      refine lx_nil ?_
      exact ⟨rfl, (((((((((((((((((((((((((((((((((((((((((((((((((((((((((A3.up rfl _).up rfl _).up rfl _).up rfl _).up rfl _).up rfl _).up rfl _).up rfl _).up rfl _).up rfl _).up rfl _).up rfl _).up rfl _).up rfl _).none _).up rfl _).up rfl _).up rfl _).up rfl _).up rfl _).up rfl _).up rfl _).up rfl _).up rfl _).up rfl _).up rfl _).up rfl _).up rfl _).up rfl _).up rfl _).up rfl _).up rfl _).up rfl _).up rfl _).up rfl _).up rfl _).up rfl _).up rfl _).up rfl _).up rfl _).up rfl _).up rfl _).up rfl _).up rfl _).up rfl _).up rfl _).up rfl _).up rfl _).up rfl _).loop A4 rfl).up rfl _).up rfl _).up rfl _).up rfl _).up rfl _).up rfl _).up rfl _), (Fr.ext (Fr.ext (Fr.trans (Fr.ext (Fr.ext (Fr.ext EL3 E7) E8) Eb5) Es3 (fun i hi1 h => (absurd hi1 (by omega)))) E9) EL4), _, (by omega), j + 1, rfl, rfl, by omega⟩
    ·
     refine lx_value (want rfl) (rn_loadBlk ag_45 sz_45 (A3.at 11 rfl rfl) (Bs2.ext EL3) rfl rfl) ?_
     refine lx_call (want rfl) (ent_func cf_29 (argsC (t_agg rfl) args0)) (copypic_ct (picB L (bitL k i)) sV cV sK cK _ hBp w10 (hPv.fr (vl_stab _) (Fr.ext (Fr.trans (Fr.ext (Fr.refl (fun k => k = b4) w7) Eb4) Es2 (fun k _ h => h)) EL3) (fun k hk h => by have hk1 := hk.1; have hk2 := hk.2; (try dsimp only at h hk1 hk2); first | exact h.elim | omega | (rcases (show _ ∨ _ from h) with h | h <;> omega))) (hPc.fr (vv_stab _) (Fr.ext (Fr.trans (Fr.ext (Fr.refl (fun k => k = b4) w7) Eb4) Es2 (fun k _ h => h)) EL3) (fun k hk h => by have hk1 := hk.1; have hk2 := hk.2; (try dsimp only at h hk1 hk2); first | exact h.elim | omega | (rcases (show _ ∨ _ from h) with h | h <;> omega)))) ?_
     rintro _ w11 E11 ⟨sA, cA, sB, cB, rfl, hPV, hPC⟩
     have F25 := F17.ext E11
     have hz11 := E11.size
     refine lx_value (want rfl) (mv_int hs3_13) ?_
     refine lx_call (want rfl) (ent_func cf_49 (argsC (t_agg rfl) (argsC (t_int rfl) args0))) ((str_lit (r := (0, x, ((0, 0) : Vl))) (hst.trans (by rw [hcz]; rfl)) (pStream_ct (picB L (bitL k i)) sA cA sB cB _ hBp (j : Int) w11 (hPV.fr (vl_stab _) (Fr.refl no w11) (fun k hk h => by have hk1 := hk.1; have hk2 := hk.2; (try dsimp only at h hk1 hk2); first | exact h.elim | omega | (rcases (show _ ∨ _ from h) with h | h <;> omega))) (hPC.fr (vv_stab _) (Fr.refl no w11) (fun k hk h => by have hk1 := hk.1; have hk2 := hk.2; (try dsimp only at h hk1 hk2); first | exact h.elim | omega | (rcases (show _ ∨ _ from h) with h | h <;> omega)))))) ?_
     rintro _ w12 E12 ⟨sT, cT, rfl, hT⟩
     have F26 := F25.ext E12
     have hz12 := E12.size
     refine lx_value (want rfl) (mv_tuple rfl) ?_
     refine lx_value (want rfl) (rn_extract rfl rfl) ?_
     refine lx_value (want rfl) (rn_extract rfl rfl) ?_
     refine lx_value (want rfl) (rn_extract rfl rfl) ?_
     refine lx_new (want rfl) (rn_alloc ze_36) ?_
     intro b6 w13 hb6 Eb6 B6 hlb6
     have F27 := F26.ext Eb6
     have hzb6 := Eb6.size
     have nb9 : ∀ k, ob so1_5 k → k ≠ b6 := fun k hk => by have := (ow1L_5).lt hk; omega
     have nb10 : ∀ k, ob sA4 k → k ≠ b6 := fun k hk => by have := (hOA4).lt hk; omega
     refine lx_value (want rfl) (as_slice rfl) ?_
     refine lx_set (want rfl) sz_36 rfl (t_agg rfl) rfl rfl rfl B6 (Nat.le_of_ble_eq_true rfl) ?_
     intro w14 Es4 Bs4
     have F28 := F27.set Es4 (by omega)
     have hzs4 := Es4.size
     refine lx_value (want rfl) (as_int rfl) ?_
     refine lx_nil ?_
     refine wk_seq ?_
     refine wk_seq ?_
     obtain ⟨bO, oO, hsO, _, hcO⟩ := OwnS.sl (l := (bitL k i)) (cells := boC) (F := fun _ => True) (((((((((((((ow1L_5.ext Eb2).ext EA4).ext E5).ext Eb3).ne Es1 (fun h => nb3 _ h rfl)).ext E6).ext Eb4).ne Es2 (fun h => nb5 _ h rfl)).ext EL3).ext E11).ext E12).ext Eb6).ne Es4 (fun h => nb9 _ h rfl)) (by decide) rfl (fun _ _ => rfl) (fun _ _ => trivial) j cq hcq
     refine wk_mix 30 (fun kS => match kS with | 18 => .val (.agg #[.int .u8 3, .int .i64 0]) | 24 => .val (.agg #[.int .u8 3, .int .i64 0]) | _ => .none) (by kernel_rfl) (by kernel_rfl) (by intro kS G hk; (try dsimp only at hk); (split at hk) <;> first | (cases hk; done) | (injection hk with hk; subst hk; exact ⟨by intro j hkj I v w w' hR hG; first | exact hG, fun ⟨_, _, _, _, hs⟩ => by (try dsimp only at hs); split at hs <;> cases hs⟩)) (by intro kS s y G hk; (try dsimp only at hk); split at hk <;> cases hk) ?_
     simp only [List.take_succ_cons, List.take_zero, List.take_nil, List.drop_succ_cons, List.drop_zero, List.drop_nil]
     refine mx_calm rfl (want rfl) (fun u42 eu42 fu42 => mv_int rfl) ?_
     refine mx_calm rfl (want rfl) (fun u43 eu43 fu43 => rn_neq rfl rfl) ?_
     refine mx_dec_f ((fun h => h rfl)) ?_
     refine mx_calm rfl (want rfl) (fun u44 eu44 fu44 => mv_bool rfl) ?_
     refine mx_calm rfl (want_if (j := 2) (d := 107) (x := false) (y := false) rfl rfl (by decide) rfl) (fun u45 eu45 fu45 => mv_slice rfl) ?_
     refine mx_calm rfl (want_if (j := 2) (d := 107) (x := false) (y := false) rfl rfl (by decide) rfl) (fun u46 eu46 fu46 => rn_len Tryz.underlying77 rfl) ?_
     refine mx_calm rfl (want_if (j := 2) (d := 107) (x := false) (y := false) rfl rfl (by decide) rfl) (fun u47 eu47 fu47 => mv_slice (A3.at 0 rfl (A1.at 0 rfl rfl))) ?_
     refine mx_calm rfl (want_if (j := 2) (d := 107) (x := false) (y := false) rfl rfl (by decide) rfl) (fun u48 eu48 fu48 => mv_int hs3_13) ?_
     refine mx_calm rfl (want_if (j := 2) (d := 107) (x := false) (y := false) rfl rfl (by decide) rfl) (fun u49 eu49 fu49 => rn_index j Tryz.underlying95 sz_77 rfl rfl rfl (by omega)) ?_
     refine mx_calm rfl (want_if (j := 2) (d := 107) (x := false) (y := false) rfl rfl (by decide) rfl) (fun u50 eu50 fu50 => rn_load1 ag_77 rfl ((F28.ext ((ext_drawn _).trans' eu50)).cell (fun h => h) hcx)) ?_
     refine mx_calm rfl (want_if (j := 2) (d := 107) (x := false) (y := false) rfl rfl (by decide) rfl) (fun u51 eu51 fu51 => rn_len Tryz.underlying77 rfl) ?_
     refine mx_calm rfl (want_if (j := 2) (d := 107) (x := false) (y := false) rfl rfl (by decide) rfl) (fun u52 eu52 fu52 => rn_neq rfl rfl) ?_
     refine mx_dec_f ((fun h => h rfl)) ?_
     refine mx_calm rfl (want rfl) (fun u53 eu53 fu53 => pick_f rfl rfl) ?_
     refine mx_calm rfl (want rfl) (fun u54 eu54 fu54 => mv_bool rfl) ?_
     refine mx_calm rfl (want_if (j := 12) (d := 117) (x := false) (y := false) rfl rfl (by decide) rfl) (fun u55 eu55 fu55 => rn_loadBlk ag_36 sz_36 rfl (Bs4.ext ((ext_drawn _).trans' eu55)) rfl rfl) ?_
     refine mx_calm rfl (want_if (j := 12) (d := 117) (x := false) (y := false) rfl rfl (by decide) rfl) (fun u56 eu56 fu56 => rn_build0  (fun w => bd_36  w)) ?_
     refine mx_calm rfl (want_if (j := 12) (d := 117) (x := false) (y := false) rfl rfl (by decide) rfl) (fun u57 eu57 fu57 => rn_cmpS (t_agg rfl) (t_agg rfl) (gneq_36 _ _ _ _) (neq_36 _ _ _ _)) ?_
     refine mx_dec_f ((fun h => h ⟨rfl, rfl⟩)) ?_
     refine mx_calm rfl (want_if (j := 12) (d := 117) (x := false) (y := false) rfl rfl (by decide) rfl) (fun u58 eu58 fu58 => mv_bool rfl) ?_
     refine mx_skip (want_if (j := 16) (d := 121) (x := true) (y := false) rfl rfl (by decide) rfl) ?_
     refine mx_skip (want_if (j := 16) (d := 121) (x := true) (y := false) rfl rfl (by decide) rfl) ?_
     refine mx_skip (want_if (j := 16) (d := 121) (x := true) (y := false) rfl rfl (by decide) rfl) ?_
     refine mx_calm rfl (want_if (j := 12) (d := 117) (x := false) (y := false) rfl rfl (by decide) rfl) (fun u59 eu59 fu59 => pick_f rfl rfl) ?_
     refine mx_calm rfl (want rfl) (fun u60 eu60 fu60 => pick_f rfl rfl) ?_
     refine mx_calm rfl (want rfl) (fun u61 eu61 fu61 => mv_bool rfl) ?_
     refine mx_calm rfl (want_if (j := 22) (d := 127) (x := false) (y := false) rfl rfl (by decide) rfl) (fun u62 eu62 fu62 => rn_loadBlk ag_36 sz_36 rfl (Bs4.ext ((ext_drawn _).trans' eu62)) rfl rfl) ?_
     refine mx_val rfl (want_if (j := 22) (d := 127) (x := false) (y := false) rfl rfl (by decide) rfl) (fun u63 eu63 fu63 => do_call (ent_func cf_66 args0) (nil_ct u63) (fun _ _ E h => ⟨E, h⟩)) ?_
     refine mx_calm rfl (want_if (j := 22) (d := 127) (x := false) (y := false) rfl rfl (by decide) rfl) (fun u64 eu64 fu64 => rn_cmpS (t_agg rfl) (t_agg rfl) (geql_36 _ _ _ _) (eql_36 _ _ _ _)) ?_
     refine mx_calm rfl (want_if (j := 22) (d := 127) (x := false) (y := false) rfl rfl (by decide) rfl) (fun u65 eu65 fu65 => mv_slice (A3.at 5 rfl ho1_5)) ?_
     refine mx_calm rfl (want_if (j := 22) (d := 127) (x := false) (y := false) rfl rfl (by decide) rfl) (fun u66 eu66 fu66 => mv_int hs3_13) ?_
     refine mx_calm rfl (want_if (j := 22) (d := 127) (x := false) (y := false) rfl rfl (by decide) rfl) (fun u67 eu67 fu67 => rn_index j Tryz.underlying96 sz_4 ((rfl).trans (congrArg (fun q => Value.slice q _ _) hsO)) rfl rfl (by omega)) ?_
     refine mx_calm rfl (want_if (j := 22) (d := 127) (x := false) (y := false) rfl rfl (by decide) rfl) (fun u68 eu68 fu68 => rn_load1 ag_4 rfl (((ext_drawn _).trans' eu68).cell (fun h => h) (hcO 0 _ rfl))) ?_
     refine mx_nil (fun w15 E13' H3 HS => ?_)
     have E13 := (ext_drawn _).trans' E13'
     have F29 := F28.ext E13
     have hz13 := E13.size
     refine lx_value (want_if (j := 22) (d := 127) (x := false) (y := false) rfl rfl (by decide) rfl) (rn_neqB Tryz.underlying4 rfl rfl) ?_
     refine lx_dec_f ((fun h => h (hcz.symm.trans hbq))) ?_
     refine lx_value (want rfl) (pick_f rfl rfl) ?_
     refine lx_nil ?_
     refine wk_cond_f rfl ?_
     refine wk_skip ?_
     refine wk_seq ?_
     refine wk_region ?_
     refine lx_value (want rfl) (as_int rfl) ?_
     refine lx_nil ?_
     refine wk_block ?_
     refine wk_loopA [4, 17, 137, 138, 139, 140, 141, 142, 143, 144, 145, 146, 147, 148, 149, 150, 151, 152, 153, 154] no (fun nM ρ w => ∃ (q : Nat), nM = x.length - q ∧ ρ 17 = .int .i64 q ∧ (q ≤ x.length)) _ ⟨0, rfl, rfl, Nat.zero_le _⟩ ?_
     rintro n5 ρ5 w16 A5 EL5 ⟨q, rfl, hs5_17, hq⟩
     have F30 := F29.ext EL5
     have hzL5 := EL5.size
     refine wk_seq ?_
     refine wk_seq ?_
     refine wk_region ?_
     refine lx_value (want rfl) (mv_int hs5_17) ?_
     refine lx_value (want rfl) (mv_slice (A5.at 14 rfl rfl)) ?_
     refine lx_value (want rfl) (rn_len Tryz.underlying77 rfl) ?_
     refine lx_value (want rfl) (rn_lss rfl rfl) ?_
     refine lx_dec (fun hlt5 => ?_) (fun hlt5 => ?_)
     ·
      obtain ⟨y, hy⟩ := getx hlt5
      obtain ⟨b1_, o1_, hs1, _, hc1⟩ := (hT.fr (int_stab _) (Fr.ext (Fr.ext (Fr.trans (Fr.ext (Fr.refl (fun k => k = b6) w12) Eb6) Es4 (fun k _ h => h)) E13) EL5) (fun k hk h => by have hk1 := hk.1; have hk2 := hk.2; (try dsimp only at h hk1 hk2); first | exact h.elim | omega | (rcases (show _ ∨ _ from h) with h | h <;> omega))) q y hy
      subst hs1
      obtain ⟨by_, oy, hsy, _, hcy⟩ := hpx q y hy
      subst hsy
      refine lx_nil ?_
      refine wk_cond_t rfl ?_
      refine wk_skip ?_
      refine wk_seq ?_
      refine wk_block ?_
      refine wk_seq ?_
      refine wk_mix 11 (fun _ => .none) (by kernel_rfl) (by kernel_rfl) (fun kS G hk => by cases hk) (fun kS s y G hk => by cases hk) ?_
      simp only [List.take_succ_cons, List.take_zero, List.take_nil, List.drop_succ_cons, List.drop_zero, List.drop_nil]
      refine mx_calm rfl (want rfl) (fun u69 eu69 fu69 => mv_slice (A5.at 14 rfl rfl)) ?_
      refine mx_calm rfl (want rfl) (fun u70 eu70 fu70 => mv_int hs5_17) ?_
      refine mx_calm rfl (want rfl) (fun u71 eu71 fu71 => rn_index q Tryz.underlying77 sz_3 rfl rfl rfl (by omega)) ?_
      refine mx_calm rfl (want rfl) (fun u72 eu72 fu72 => rn_load1 ag_3 rfl (((ext_drawn _).trans' eu72).cell (fun h => h) (hc1 0 _ rfl))) ?_
      refine mx_calm rfl (want rfl) (fun u73 eu73 fu73 => mv_slice (A5.at 0 rfl (A3.at 0 rfl (A1.at 0 rfl rfl)))) ?_
      refine mx_calm rfl (want rfl) (fun u74 eu74 fu74 => mv_int (A5.at 13 rfl hs3_13)) ?_
      refine mx_calm rfl (want rfl) (fun u75 eu75 fu75 => rn_index j Tryz.underlying95 sz_77 rfl rfl rfl (by omega)) ?_
      refine mx_calm rfl (want rfl) (fun u76 eu76 fu76 => rn_load1 ag_77 rfl ((F30.ext ((ext_drawn _).trans' eu76)).cell (fun h => h) hcx)) ?_
      refine mx_calm rfl (want rfl) (fun u77 eu77 fu77 => mv_int hs5_17) ?_
      refine mx_calm rfl (want rfl) (fun u78 eu78 fu78 => rn_index q Tryz.underlying77 sz_3 rfl rfl rfl (by omega)) ?_
      refine mx_calm rfl (want rfl) (fun u79 eu79 fu79 => rn_load1 ag_3 rfl ((F30.ext ((ext_drawn _).trans' eu79)).cell (fun h => h) (hcy 0 _ rfl))) ?_
      refine mx_nil (fun w17 E14' H4 HS => ?_)
      have E14 := (ext_drawn _).trans' E14'
      have F31 := F30.ext E14
      have hz14 := E14.size
      refine lx_value (want rfl) (rn_neq rfl rfl) ?_
      refine lx_dec_f ((fun h => h rfl)) ?_
      refine lx_nil ?_
      refine wk_cond_f rfl ?_
      refine wk_skip ?_
      refine wk_region ?_
      refine lx_value (want rfl) (mv_int hs5_17) ?_
      refine lx_value (want rfl) (rn_add rfl rfl (by omega)) ?_
      refine lx_value (want rfl) (as_int rfl) ?_
      refine lx_nil ?_
      exact ⟨rfl, (((((((((((((((((((A5.up rfl _).up rfl _).up rfl _).up rfl _).up rfl _).up rfl _).up rfl _).up rfl _).up rfl _).up rfl _).up rfl _).up rfl _).up rfl _).up rfl _).up rfl _).up rfl _).up rfl _).up rfl _).up rfl _), (Fr.ext EL5 E14), _, (by omega), q + 1, rfl, rfl, by omega⟩
     ·
      refine lx_nil ?_
      refine wk_cond_f rfl ?_
      refine wk_exit ?_
      refine wk_region ?_
      refine lx_value (want rfl) (mv_int (A5.at 13 rfl hs3_13)) ?_
      refine lx_value (want rfl) (rn_add rfl rfl (by omega)) ?_
      refine lx_value (want rfl) (as_int rfl) ?_
      refine lx_nil ?_
      exact ⟨rfl, (((((((((((((((((((((((((((((((((((((((((((((((((((((((((A3.up rfl _).up rfl _).up rfl _).up rfl _).up rfl _).up rfl _).up rfl _).up rfl _).up rfl _).up rfl _).up rfl _).up rfl _).up rfl _).up rfl _).none _).up rfl _).up rfl _).up rfl _).up rfl _).up rfl _).up rfl _).up rfl _).up rfl _).up rfl _).up rfl _).up rfl _).up rfl _).up rfl _).up rfl _).up rfl _).up rfl _).up rfl _).up rfl _).up rfl _).up rfl _).up rfl _).up rfl _).up rfl _).up rfl _).up rfl _).up rfl _).up rfl _).up rfl _).up rfl _).up rfl _).up rfl _).up rfl _).up rfl _).up rfl _).loop A5 rfl).up rfl _).up rfl _).up rfl _).up rfl _).up rfl _).up rfl _).up rfl _), (Fr.ext (Fr.ext (Fr.trans (Fr.ext (Fr.ext (Fr.ext EL3 E11) E12) Eb6) Es4 (fun i hi1 h => (absurd hi1 (by omega)))) E13) EL5), _, (by omega), j + 1, rfl, rfl, by omega⟩
   ·
    refine lx_nil ?_
    refine wk_cond_f rfl ?_
    refine wk_exit ?_
    refine wk_seq ?_
    refine wk_region ?_
    refine lx_call (want rfl) (ent_func cf_19 args0) (awake_ct w10) ?_
    rintro _ w11 E15 rfl
    have F32 := F17.ext E15
    have hz15 := E15.size
    refine lx_value (want rfl) (as_bool rfl) ?_
    refine lx_nil ?_
    refine wk_ret ?_
    refine retR1 Tryz.results16 (.tmp (t_bool rfl)) F32 ?_
    exact rfl

end Go.Proofs.YtnhgfmbmfjmonaaGreatDoor

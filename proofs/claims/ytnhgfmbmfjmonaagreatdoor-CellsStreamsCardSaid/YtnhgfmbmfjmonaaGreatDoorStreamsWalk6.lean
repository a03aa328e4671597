/- What functions compute: refisvalue, pofcells, samepic, isvalue, equalfv, psize, isstruct2, writestr, tangled. -/
import Derived.Test.YtnhgfmbmfjmonaaGreatDoorStreamsFacts
import Derived.Test.YtnhgfmbmfjmonaaGreatDoorStreamsPre
import Derived.Test.YtnhgfmbmfjmonaaGreatDoorStreamsWalk2
import Derived.Test.YtnhgfmbmfjmonaaGreatDoorStreamsWalk3
set_option maxRecDepth 100000
set_option linter.unusedVariables false
set_option linter.unusedSimpArgs false
namespace Go.Proofs.YtnhgfmbmfjmonaaGreatDoor
open Go Go.RowKit Go.Mix Go.Eng
theorem refisvalue_ct (k n many : Int) (w0 : World) :
  CT Tryz.prog 35 [.agg #[.int .u8 k, .int .i64 n], .int .i64 many] w0 no (fun v _ => v = .bool (isValR (k, n) many)) := by
 have F0 := Fr.refl no w0
 refine ct_body Tryz.func35 rfl Tryz.ntmps35 (Nat.le_of_ble_eq_true rfl) ?_
 refine wk_seq ?_
 refine wk_region ?_
 refine lx_new (want rfl) (rn_box (t_agg rfl)) ?_
 intro b1 w1 hb1 Eb1 B1 hlb1
 have F1 := F0.ext Eb1
 have hzb1 := Eb1.size
 refine lx_value (want rfl) (as_bool rfl) ?_
 refine lx_nil ?_
 refine wk_seq ?_
 refine wk_seq ?_
 refine wk_region ?_
 refine lx_value (want rfl) (rn_fieldAddr fa_36_0 rfl) ?_
 refine lx_value (want rfl) (rn_load1Blk ag_5 rfl B1 rfl) ?_
 refine lx_nil ?_
 refine wk_block ?_
 refine wk_seq ?_
 refine wk_seq ?_
 refine wk_region ?_
 refine lx_value (want rfl) (rn_eql rfl rfl) ?_
 refine lx_dec (fun h0 => ?_) (fun h0 => ?_)
 ·
  refine lx_value (want rfl) (as_bool rfl) ?_
  refine lx_nil ?_
  refine wk_cond_t rfl ?_
  refine wk_skip ?_
  refine wk_cond_t rfl ?_
  refine wk_seq ?_
  refine wk_region ?_
  refine lx_value (want rfl) (rn_fieldAddr fa_36_1 rfl) ?_
  refine lx_value (want rfl) (rn_load1Blk ag_3 rfl B1 rfl) ?_
  refine lx_value (want rfl) (rn_eql rfl rfl) ?_
  refine lx_value (want rfl) (as_bool rfl) ?_
  refine lx_nil ?_
  refine wk_ret ?_
  refine retR1 Tryz.results35 (.tmp (t_bool rfl)) F1 ?_
  exact valR_of (by omega) (val_zero (.inl h0))
 ·
  refine lx_value (want rfl) (as_bool rfl) ?_
  refine lx_nil ?_
  refine wk_cond_f rfl ?_
  refine wk_region ?_
  refine lx_value (want rfl) (rn_eql rfl rfl) ?_
  refine lx_dec (fun h3 => ?_) (fun h3 => ?_)
  ·
   refine lx_value (want rfl) (as_bool rfl) ?_
   refine lx_nil ?_
   refine wk_cond_t rfl ?_
   refine wk_seq ?_
   refine wk_region ?_
   refine lx_value (want rfl) (rn_fieldAddr fa_36_1 rfl) ?_
   refine lx_value (want rfl) (rn_load1Blk ag_3 rfl B1 rfl) ?_
   refine lx_value (want rfl) (rn_eql rfl rfl) ?_
   refine lx_value (want rfl) (as_bool rfl) ?_
   refine lx_nil ?_
   refine wk_ret ?_
   refine retR1 Tryz.results35 (.tmp (t_bool rfl)) F1 ?_
   exact valR_of (by omega) (val_zero (.inr h3))
  ·
   refine lx_value (want rfl) (as_bool rfl) ?_
   refine lx_nil ?_
   refine wk_cond_f rfl ?_
   refine wk_seq ?_
   refine wk_region ?_
   refine lx_value (want rfl) (rn_eql rfl rfl) ?_
   refine lx_dec (fun h1 => ?_) (fun h1 => ?_)
   ·
    refine lx_value (want rfl) (as_bool rfl) ?_
    refine lx_nil ?_
    refine wk_cond_t rfl ?_
    refine wk_seq ?_
    refine wk_region ?_
    refine lx_value (want rfl) (rn_fieldAddr fa_36_1 rfl) ?_
    refine lx_value (want rfl) (rn_load1Blk ag_3 rfl B1 rfl) ?_
    refine lx_call (want rfl) (ent_func cf_65 (argsC (t_int rfl) (argsC (t_int rfl) (argsC (t_int rfl) args0)))) (in_ct _ _ _ w1) ?_
    rintro _ w2 E1 rfl
    have F2 := F1.ext E1
    have hz1 := E1.size
    refine lx_value (want rfl) (as_bool rfl) ?_
    refine lx_nil ?_
    refine wk_ret ?_
    refine retR1 Tryz.results35 (.tmp (t_bool rfl)) F2 ?_
    exact valR_of (by omega) (val_int h1)
   ·
    refine lx_value (want rfl) (as_bool rfl) ?_
    refine lx_nil ?_
    refine wk_cond_f rfl ?_
    refine wk_seq ?_
    refine wk_region ?_
    refine lx_value (want rfl) (rn_eql rfl rfl) ?_
    refine lx_dec (fun h2 => ?_) (fun h2 => ?_)
    ·
     refine lx_value (want rfl) (as_bool rfl) ?_
     refine lx_nil ?_
     refine wk_cond_t rfl ?_
     refine wk_seq ?_
     refine wk_region ?_
     refine lx_value (want rfl) (rn_fieldAddr fa_36_1 rfl) ?_
     refine lx_value (want rfl) (rn_load1Blk ag_3 rfl B1 rfl) ?_
     refine lx_value (want rfl) (rn_eql rfl rfl) ?_
     refine lx_dec (fun hn0 => ?_) (fun hn0 => ?_)
     ·
      refine lx_value (want rfl) (mv_bool rfl) ?_
      refine lx_skip (want_if (j := 3) (d := 23) (x := false) (y := true) rfl rfl (by decide) rfl) ?_
      refine lx_skip (want_if (j := 3) (d := 23) (x := false) (y := true) rfl rfl (by decide) rfl) ?_
      refine lx_skip (want_if (j := 3) (d := 23) (x := false) (y := true) rfl rfl (by decide) rfl) ?_
      refine lx_value (want rfl) (pick_t rfl rfl) ?_
      refine lx_value (want rfl) (as_bool rfl) ?_
      refine lx_nil ?_
      refine wk_ret ?_
      refine retR1 Tryz.results35 (.tmp (t_bool rfl)) F1 ?_
      exact valR_bool1 h2 hn0
     ·
      refine lx_value (want rfl) (mv_bool rfl) ?_
      refine lx_value (want_if (j := 3) (d := 23) (x := false) (y := false) rfl rfl (by decide) rfl) (rn_fieldAddr fa_36_1 rfl) ?_
      refine lx_value (want_if (j := 3) (d := 23) (x := false) (y := false) rfl rfl (by decide) rfl) (rn_load1Blk ag_3 rfl B1 rfl) ?_
      refine lx_value (want_if (j := 3) (d := 23) (x := false) (y := false) rfl rfl (by decide) rfl) (rn_eql rfl rfl) ?_
      refine lx_value (want rfl) (pick_f rfl rfl) ?_
      refine lx_value (want rfl) (as_bool rfl) ?_
      refine lx_nil ?_
      refine wk_ret ?_
      refine retR1 Tryz.results35 (.tmp (t_bool rfl)) F1 ?_
      exact valR_bool2 h2 hn0
    ·
     refine lx_value (want rfl) (as_bool rfl) ?_
     refine lx_nil ?_
     refine wk_cond_f rfl ?_
     refine wk_seq ?_
     refine wk_region ?_
     refine lx_value (want rfl) (rn_eql rfl rfl) ?_
     refine lx_dec (fun h4 => ?_) (fun h4 => ?_)
     ·
      refine lx_value (want rfl) (as_bool rfl) ?_
      refine lx_nil ?_
      refine wk_cond_t rfl ?_
      refine wk_seq ?_
      refine wk_region ?_
      refine lx_value (want rfl) (rn_fieldAddr fa_36_1 rfl) ?_
      refine lx_value (want rfl) (rn_load1Blk ag_3 rfl B1 rfl) ?_
      refine lx_value (want rfl) (rn_geq rfl rfl) ?_
      refine lx_dec (fun hn => ?_) (fun hn => ?_)
      ·
       refine lx_value (want rfl) (mv_bool rfl) ?_
       refine lx_value (want_if (j := 3) (d := 33) (x := true) (y := true) rfl rfl (by decide) rfl) (mv_int rfl) ?_
       refine lx_value (want_if (j := 3) (d := 33) (x := true) (y := true) rfl rfl (by decide) rfl) (rn_lss rfl rfl) ?_
       refine lx_dec (fun hm => ?_) (fun hm => ?_)
       ·
        refine lx_value (want_if (j := 3) (d := 33) (x := true) (y := true) rfl rfl (by decide) rfl) (mv_bool rfl) ?_
        refine lx_skip (want_if (j := 6) (d := 36) (x := false) (y := true) rfl rfl (by decide) rfl) ?_
        refine lx_skip (want_if (j := 6) (d := 36) (x := false) (y := true) rfl rfl (by decide) rfl) ?_
        refine lx_skip (want_if (j := 6) (d := 36) (x := false) (y := true) rfl rfl (by decide) rfl) ?_
        refine lx_skip (want_if (j := 6) (d := 36) (x := false) (y := true) rfl rfl (by decide) rfl) ?_
        refine lx_value (want_if (j := 3) (d := 33) (x := true) (y := true) rfl rfl (by decide) rfl) (pick_t rfl rfl) ?_
        refine lx_value (want rfl) (pick_t rfl rfl) ?_
        refine lx_value (want rfl) (as_bool rfl) ?_
        refine lx_nil ?_
        refine wk_ret ?_
        refine retR1 Tryz.results35 (.tmp (t_bool rfl)) F1 ?_
        exact valR_ref1 h4 hn hm
       ·
        refine lx_value (want_if (j := 3) (d := 33) (x := true) (y := true) rfl rfl (by decide) rfl) (mv_bool rfl) ?_
        refine lx_value (want_if (j := 6) (d := 36) (x := false) (y := false) rfl rfl (by decide) rfl) (rn_fieldAddr fa_36_1 rfl) ?_
        refine lx_value (want_if (j := 6) (d := 36) (x := false) (y := false) rfl rfl (by decide) rfl) (rn_load1Blk ag_3 rfl B1 rfl) ?_
        refine lx_value (want_if (j := 6) (d := 36) (x := false) (y := false) rfl rfl (by decide) rfl) (mv_int rfl) ?_
        refine lx_value (want_if (j := 6) (d := 36) (x := false) (y := false) rfl rfl (by decide) rfl) (rn_lss rfl rfl) ?_
        refine lx_value (want_if (j := 3) (d := 33) (x := true) (y := true) rfl rfl (by decide) rfl) (pick_f rfl rfl) ?_
        refine lx_value (want rfl) (pick_t rfl rfl) ?_
        refine lx_value (want rfl) (as_bool rfl) ?_
        refine lx_nil ?_
        refine wk_ret ?_
        refine retR1 Tryz.results35 (.tmp (t_bool rfl)) F1 ?_
        exact valR_ref2 h4 hn hm
      ·
       refine lx_value (want rfl) (mv_bool rfl) ?_
       refine lx_skip (want_if (j := 3) (d := 33) (x := true) (y := false) rfl rfl (by decide) rfl) ?_
       refine lx_skip (want_if (j := 3) (d := 33) (x := true) (y := false) rfl rfl (by decide) rfl) ?_
       refine lx_skip (want_if (j := 3) (d := 33) (x := true) (y := false) rfl rfl (by decide) rfl) ?_
       refine lx_skip (want_un (j := 6) (d := 36) (x := false) rfl rfl (by decide) rfl) ?_
       refine lx_skip (want_un (j := 6) (d := 36) (x := false) rfl rfl (by decide) rfl) ?_
       refine lx_skip (want_un (j := 6) (d := 36) (x := false) rfl rfl (by decide) rfl) ?_
       refine lx_skip (want_un (j := 6) (d := 36) (x := false) rfl rfl (by decide) rfl) ?_
       refine lx_skip (want_if (j := 3) (d := 33) (x := true) (y := false) rfl rfl (by decide) rfl) ?_
       refine lx_value (want rfl) (pick_f rfl rfl) ?_
       refine lx_value (want rfl) (as_bool rfl) ?_
       refine lx_nil ?_
       refine wk_ret ?_
       refine retR1 Tryz.results35 (.tmp (t_bool rfl)) F1 ?_
       exact valR_ref3 h4 hn
     ·
      refine lx_value (want rfl) (as_bool rfl) ?_
      refine lx_nil ?_
      refine wk_cond_f rfl ?_
      refine wk_seq ?_
      refine wk_region ?_
      refine lx_value (want rfl) (rn_eql rfl rfl) ?_
      refine lx_dec (fun h5 => ?_) (fun h5 => ?_)
      ·
       refine lx_value (want rfl) (as_bool rfl) ?_
       refine lx_nil ?_
       refine wk_cond_t rfl ?_
       refine wk_seq ?_
       refine wk_region ?_
       refine lx_value (want rfl) (rn_fieldAddr fa_36_1 rfl) ?_
       refine lx_value (want rfl) (rn_load1Blk ag_3 rfl B1 rfl) ?_
       refine lx_call (want rfl) (ent_func cf_65 (argsC (t_int rfl) (argsC (t_int rfl) (argsC (t_int rfl) args0)))) (in_ct _ _ _ w1) ?_
       rintro _ w2 E2 rfl
       have F3 := F1.ext E2
       have hz2 := E2.size
       refine lx_value (want rfl) (as_bool rfl) ?_
       refine lx_nil ?_
       refine wk_ret ?_
       refine retR1 Tryz.results35 (.tmp (t_bool rfl)) F3 ?_
       exact valR_of (by omega) (val_bad h5)
      ·
       refine lx_value (want rfl) (as_bool rfl) ?_
       refine lx_nil ?_
       refine wk_cond_f rfl ?_
       refine wk_skip ?_
       refine wk_seq ?_
       refine wk_region ?_
       refine lx_value (want rfl) (as_bool rfl) ?_
       refine lx_nil ?_
       refine wk_ret ?_
       refine retR1 Tryz.results35 (.tmp (t_bool rfl)) F1 ?_
       exact valR_of (by omega) (val_no ⟨h0, h3, h1, h2, h4, h5⟩)

theorem pofcells_ct (L : List (List Vl)) (sk : Option Addr) (ck : Nat) (G : Nat → Prop) (hL : L.length ≤ 1048576) (hBL : ∀ l ∈ L, l.length ≤ 1048576) (w0 : World) (hk : VvS G w0 sk L) :
  CT Tryz.prog 79 [.slice sk L.length ck] w0 no (fun v w => MemT w0.heap.size w v (memC L)) := by
 have F0 := Fr.refl no w0
 refine ct_body Tryz.func79 rfl Tryz.ntmps79 (Nat.le_of_ble_eq_true rfl) ?_
 refine wk_seq ?_
 refine wk_region ?_
 refine lx_new (want rfl) (rn_alloc ze_24) ?_
 intro b1 w1 hb1 Eb1 B1 hlb1
 have F1 := F0.ext Eb1
 have hzb1 := Eb1.size
 refine lx_nil ?_
 refine wk_seq ?_
 refine wk_seq ?_
 refine wk_region ?_
 refine lx_value (want rfl) (mv_slice rfl) ?_
 refine lx_value (want rfl) (rn_len Tryz.underlying43 rfl) ?_
 refine lx_value (want rfl) (mv_int rfl) ?_
 refine lx_nil ?_
 refine wk_block ?_
 refine wk_loopA [4, 7, 8, 9, 10, 11, 12, 13, 14, 15, 16, 17, 18, 19] (fun j => no j ∨ w0.heap.size ≤ j) (fun nM ρ w => ∃ (i : Nat) (st1_1 : Option Addr) (ct1_1 : Nat) (TT1_1 : List (SE Vl Rd)), nM = L.length - i ∧ ρ 7 = .int .i64 i ∧ Blk w b1 [.slice st1_1 TT1_1.length ct1_1] 24 ∧ MTab w 65 36 2 vlC 115 2 rdC st1_1 ct1_1 TT1_1 ∧ (∀ k, mtb st1_1 TT1_1 k → w0.heap.size ≤ k) ∧ (∀ k, mtb st1_1 TT1_1 k → k ≠ b1) ∧ (i ≤ L.length) ∧ (TT1_1.map SE.abs = memC (L.take i))) _ ⟨0, none, 0, ([] : List (SE Vl Rd)), rfl, rfl, B1, (MTab.nil w1 65 36 2 vlC 115 2 rdC), (fun _ h => mtb_nil h), (fun _ h => mtb_nil h), by omega, rfl⟩ ?_
 rintro n1 ρ1 w2 A1 EL1 ⟨i, st1_1, ct1_1, TT1_1, rfl, hs1_7, BL1_1, tw1L_1, tg1L_1, tn1L_1_1, hi, hT⟩
 have F2 := F1.wide EL1
 have hzL1 := EL1.size
 refine wk_seq ?_
 refine wk_region ?_
 refine lx_value (want rfl) (rn_lss hs1_7 (A1.at 6 rfl rfl)) ?_
 refine lx_dec (fun hlt => ?_) (fun hlt => ?_)
 ·
  obtain ⟨l, hl⟩ := getx hlt
  obtain ⟨bx, ox, rfl, _, sx, cx, hcx, hpx⟩ := hk i l hl
  refine lx_nil ?_
  refine wk_seq ?_
  refine wk_cond_t rfl ?_
  refine wk_skip ?_
  refine wk_seq ?_
  refine wk_block ?_
  refine wk_seq ?_
  refine wk_region ?_
  refine lx_value (want rfl) (rn_index _ Tryz.underlying43 sz_30 (A1.at 5 rfl rfl) hs1_7 rfl (by omega)) ?_
  refine lx_value (want rfl) (rn_load1 ag_30 rfl (F2.cell (fun h => h) hcx)) ?_
  refine lx_value (want rfl) (as_slice rfl) ?_
  refine lx_nil ?_
  have hTo := tw1L_1
  have hSl : ∀ k, (ob st1_1) k → k < w2.heap.size := fun k h => (tw1L_1).lt (.inl h)
  refine wk_mixA 7 6 (ob st1_1) (fun kS => match kS with | 3 => .any (fun I v w => ∃ s c, v = .slice s l.length c ∧ OwnS w 36 2 s l.length c (l.flatMap vlC) ∧ ∀ k, ob s k → w2.heap.size ≤ k) | 4 => .any (fun I v w => ∃ s c, v = .agg #[.slice s l.length c, .slice none 0 0] ∧ OwnS w 36 2 s l.length c (l.flatMap vlC) ∧ ∀ k, ob s k → w2.heap.size ≤ k) | 5 => .any (fun I v w => ∃ b s c, v = .slice (some ⟨b, 0, none⟩) 1 1 ∧ w2.heap.size ≤ b ∧ Blk w b [.slice s l.length c, .slice none 0 0] 65 ∧ OwnS w 36 2 s l.length c (l.flatMap vlC) ∧ ∀ k, ob s k → w2.heap.size ≤ k) | 6 => .any (fun I v w => ∃ (e : SE Vl Rd) (s : Option Addr) (c : Nat), v = .slice s (TT1_1 ++ [e]).length c ∧ e.abs = (l, []) ∧ MTab w 65 36 2 vlC 115 2 rdC s c (TT1_1 ++ [e]) ∧ ∀ k, mtb s (TT1_1 ++ [e]) k → (mtb st1_1 TT1_1 k ∨ w2.heap.size ≤ k)) | _ => .none) (by kernel_rfl) (by kernel_rfl) (by intro kS G hk; (try dsimp only at hk); (split at hk) <;> first | (cases hk; done) | (injection hk with hk; subst hk; exact ⟨by intro j hkj I v w w' hR hG; first | exact hG | (obtain ⟨s, c, h1, h2, h3⟩ := hG; exact ⟨s, c, h1, h2.fr (mS hR) (fun k hk hs => by have := h3 k hk; have := hTo.out.lt hs; omega), h3⟩) | (obtain ⟨s, c, h1, h4, h5⟩ := hG; exact ⟨s, c, h1, h4.fr (mS hR) (fun k hk hs => by have := h5 k hk; have := hTo.out.lt hs; omega), h5⟩) | (obtain ⟨b, s, c, h1, h2, h3, h4, h5⟩ := hG; exact ⟨b, s, c, h1, h2, h3.fr (mS hR) (fun hs => by have := hTo.out.lt hs; omega), h4.fr (mS hR) (fun k hk hs => by have := h5 k hk; have := hTo.out.lt hs; omega), h5⟩) | (obtain ⟨e, s, c, h1, h2, h3, h4⟩ := hG; exact ⟨e, s, c, h1, h2, h3.ext (mT hkj hR), h4⟩), fun ⟨_, _, _, _, hs⟩ => by (try dsimp only at hs); split at hs <;> cases hs⟩)) (by intro kS s y G hk; (try dsimp only at hk); split at hk <;> cases hk) ?_
  simp only [List.take_succ_cons, List.take_zero, List.take_nil, List.drop_succ_cons, List.drop_zero, List.drop_nil]
  refine mx_calm rfl (want rfl) (fun u1 eu1 fu1 => rn_fieldAddr fa_24_0 (A1.at 2 rfl rfl)) ?_
  refine mx_calm rfl (want rfl) (fun u2 eu2 fu2 => rn_load1Blk ag_22 rfl (BL1_1.fr (mD (by decide) eu2) (fun h => tn1L_1_1 _ (.inl h) rfl)) rfl) ?_
  refine mx_calm rfl (want rfl) (fun u3 eu3 fu3 => mv_slice rfl) ?_
  refine mx_any rfl rfl (want rfl) (fun u4 eu4 fu4 => do_call (ent_func cf_111 (argsC (t_slice rfl) args0)) (clonev_ct l _ _ _ u4 (hpx.fr (vl_stab _) (F2.new (mD (by decide) eu4) (fun k h => tg1L_1 k (.inl h))) (fun _ _ h => h)) (hBL l (List.mem_of_getElem? hl))) (fun v w' E h => ⟨(mE (by decide) E), by obtain ⟨s, c, h1, h2, h3⟩ := h; exact ⟨s, c, h1, h2, fun k hk => Nat.le_trans (mD (by decide) eu4).size (h3 k hk)⟩⟩)) (fun I14 v14 => ?_)
  refine mx_any rfl rfl (want rfl) (fun u5 eu5 fu5 => by obtain ⟨s, c, rfl, h23, hg23⟩ := fu5 14 _ rfl (show (14 : Nat) ∈ _ from by decide); exact do_value (rn_build1 (t_slice rfl) (fun w => bd_65_0 _ _ _ w)) ⟨(mE (by decide) (Fr.refl no _)), ⟨s, c, rfl, h23, hg23⟩⟩) (fun I15 v15 => ?_)
  refine mx_any rfl rfl (want rfl) (fun u6 eu6 fu6 => by obtain ⟨s, c, rfl, h23, hg23⟩ := fu6 15 _ rfl (show (15 : Nat) ∈ _ from by decide); exact (do_newS2 (rn_bslice (xs := [.tmp 15]) Tryz.underlying22 sz_65 ze_65 rfl (argsC (t_agg rfl) args0) (CL.cons rfl rfl CL.nil) rfl (Nat.le_of_ble_eq_true rfl)) (show _ ≤ _ from ((mD (by decide) eu6)).size)).mono (fun v w' h => ⟨(mE (by decide) h.1), by obtain ⟨h1, b, h2, h3, _, h4⟩ := h; exact ⟨b, s, c, h2, h3, h4, h23.ext h1, hg23⟩⟩)) (fun I16 v16 => ?_)
  refine mx_any rfl rfl (want rfl) (fun u7 eu7 fu7 => by obtain ⟨b29, s1, c1, rfl, hb29, hB29, h1, hg1⟩ := fu7 16 _ rfl (show (16 : Nat) ∈ _ from by decide); exact do_append 48 Tryz.underlying22 ti_65 (by decide) rfl (by decide) rfl rfl (tw1L_1.ext (mC eu7)).out (Src.blk hB29 rfl rfl) (by rw [show TT1_1.length = i by have := congrArg List.length hT; simp [memC] at this; omega]; omega) (fun sA cA wA AP => ⟨(mF AP.fr), by obtain ⟨g1, g2⟩ := MTab.snoc (e := ((s1, c1, l), (none, 0, []))) (tw1L_1.ext (mC eu7)) h1 (OwnS.nil _ _ _) (fun k _ h => ob_none h) (fun k hk hb => by have := hTo.lt hb; rcases hk with hk | hk; have := hg1 k hk; omega; exact ob_none hk) AP; exact ⟨_, sA, cA, by simp, rfl, g1, fun k hk => (g2 k hk).elim .inl (fun h => .inr (h.elim (fun h => h.elim (hg1 k) (fun h => ob_none h)) (fun h => Nat.le_trans (mC eu7).size h)))⟩⟩)) (fun I17 v17 => ?_)
  refine mx_nil (fun w3 E1' H1 HS => ?_)
  have E1 := mG E1'
  have F3 := F2.new E1 (fun k h => tg1L_1 k (.inl h))
  have hz1 := E1.size
  have hI17 := (HS.1 17 _ rfl).2
  have hI16 := (HS.1 16 _ rfl).2
  have hI15 := (HS.1 15 _ rfl).2
  have hI14 := (HS.1 14 _ rfl).2
  have hX17_16 := HS.2 17 _ 16 _ rfl rfl (show (17 : Nat) ≠ 16 from by decide)
  have hX17_15 := HS.2 17 _ 15 _ rfl rfl (show (17 : Nat) ≠ 15 from by decide)
  have hX17_14 := HS.2 17 _ 14 _ rfl rfl (show (17 : Nat) ≠ 14 from by decide)
  have hX16_15 := HS.2 16 _ 15 _ rfl rfl (show (16 : Nat) ≠ 15 from by decide)
  have hX16_14 := HS.2 16 _ 14 _ rfl rfl (show (16 : Nat) ≠ 14 from by decide)
  have hX15_14 := HS.2 15 _ 14 _ rfl rfl (show (15 : Nat) ≠ 14 from by decide)
  simp only at hI17
  simp only at hI16
  simp only at hI15
  simp only at hI14
  simp only at hX17_16
  simp only at hX17_15
  simp only at hX17_14
  simp only at hX16_15
  simp only at hX16_14
  simp only at hX15_14
  have g17 := H1 17 _ rfl
  obtain ⟨e, sN, cN, rfl, he, hTN, hIN⟩ := g17
  have tg2 : ∀ k, mtb sN (TT1_1 ++ [e]) k → w0.heap.size ≤ k := fun k hk => (hIN k hk).elim (tg1L_1 k) (fun h => by omega)
  have tn2_1 : ∀ k, mtb sN (TT1_1 ++ [e]) k → k ≠ b1 := fun k hk => (hIN k hk).elim (tn1L_1_1 k) (fun h => by have := (BL1_1).lt; omega)
  have g16 := H1 16 _ rfl
  have g15 := H1 15 _ rfl
  have g14 := H1 14 _ rfl
  refine lx_value (want rfl) (rn_fieldAddr fa_24_0 (A1.at 2 rfl rfl)) ?_
  refine lx_set (want rfl) sz_22 rfl (t_slice rfl) rfl rfl rfl (BL1_1.fr E1 (fun h => tn1L_1_1 _ (.inl h) rfl)) (Nat.le_of_ble_eq_true rfl) ?_
  intro w4 Es1 Bs1
  have F4 := F3.set Es1 (by omega)
  have hzs1 := Es1.size
  refine lx_nil ?_
  refine wk_region ?_
  refine lx_value (want rfl) (rn_add hs1_7 rfl (by omega)) ?_
  refine lx_value (want rfl) (mv_int rfl) ?_
  refine lx_nil ?_
  exact ⟨rfl, (((((((((((((((A1.up rfl _).up rfl _).up rfl _).up rfl _).up rfl _).up rfl _).up rfl _).up rfl _).up rfl _).up rfl _).up rfl _).up rfl _).none _).up rfl _).up rfl _), Fr.between F1 F4 (by omega), _, (by omega), i + 1, sN, cN, (TT1_1 ++ [e]), rfl, rfl, Bs1, (hTN.fr Es1 (fun k hk h => tn2_1 k hk h)), tg2, tn2_1, by have := (List.getElem?_eq_some_iff.1 hl).1; omega, (memC_step hT hl he)⟩
 ·
  refine lx_nil ?_
  refine wk_seq ?_
  refine wk_cond_f rfl ?_
  refine wk_exit ?_
  refine wk_seq ?_
  refine wk_region ?_
  refine lx_value (want rfl) (rn_loadBlk ag_24 sz_24 (A1.at 2 rfl rfl) BL1_1 rfl rfl) ?_
  refine lx_set (want rfl) sz_24 (A1.at 2 rfl rfl) (t_agg rfl) rfl rfl rfl BL1_1 (Nat.le_of_ble_eq_true rfl) ?_
  intro w3 Es2 Bs2
  have F5 := F2.set Es2 (by omega)
  have hzs2 := Es2.size
  refine lx_nil ?_
  refine wk_ret ?_
  refine retR1 Tryz.results79 (.cell (A1.at 2 rfl rfl) (run_loadVar_blk ag_24 sz_24 Bs2 rfl rfl)) F5 ?_
  exact memC_of (tw1L_1.fr Es2 (fun k hk h => tn1L_1_1 k hk h)) hT (by omega) tg1L_1

theorem samepic_ct (p : Pic) (sv : Option Addr) (cv : Nat) (sk : Option Addr) (ck : Nat) (G : Nat → Prop) (q : Pic) (sv2 : Option Addr) (cv2 : Nat) (sk2 : Option Addr) (ck2 : Nat) (G2 : Nat → Prop) (hB : Bp q) (w0 : World) (hv : VlS G w0 sv p.1) (hk : VvS G w0 sk p.2) (hv2 : VlS G2 w0 sv2 q.1) (hk2 : VvS G2 w0 sk2 q.2) :
  CT Tryz.prog 32 [.agg #[.slice sv p.1.length cv, .slice sk p.2.length ck], .agg #[.slice sv2 q.1.length cv2, .slice sk2 q.2.length ck2]] w0 no (fun v _ => v = .bool (decide (p = q))) := by
 have hB1 := hB.1
 have hB2 := hB.2.1
 have F0 := Fr.refl no w0
 refine ct_body Tryz.func32 rfl Tryz.ntmps32 (Nat.le_of_ble_eq_true rfl) ?_
 refine wk_seq ?_
 refine wk_region ?_
 refine lx_new (want rfl) (rn_box (t_agg rfl)) ?_
 intro b1 w1 hb1 Eb1 B1 hlb1
 have F1 := F0.ext Eb1
 have hzb1 := Eb1.size
 refine lx_new (want rfl) (rn_box (t_agg rfl)) ?_
 intro b2 w2 hb2 Eb2 B2 hlb2
 have F2 := F1.ext Eb2
 have hzb2 := Eb2.size
 refine lx_value (want rfl) (as_bool rfl) ?_
 refine lx_nil ?_
 refine wk_seq ?_
 refine wk_seq ?_
 refine wk_region ?_
 refine lx_value (want rfl) (rn_fieldAddr fa_45_0 rfl) ?_
 refine lx_value (want rfl) (rn_load1Blk ag_30 rfl (B1.ext Eb2) rfl) ?_
 refine lx_value (want rfl) (rn_fieldAddr fa_45_0 rfl) ?_
 refine lx_value (want rfl) (rn_load1Blk ag_30 rfl B2 rfl) ?_
 refine lx_call (want rfl) (ent_func cf_25 (argsC (t_slice rfl) (argsC (t_slice rfl) args0))) (samevalues_ct p.1 q.1 _ _ _ _ _ _ w2 (hv.fr (vl_stab _) F2 (fun _ _ h => h)) (hv2.fr (vl_stab _) F2 (fun _ _ h => h)) hB1) ?_
 rintro _ w3 E1 rfl
 have F3 := F2.ext E1
 have hz1 := E1.size
 refine lx_split (fun h1 => ?_) (fun h1 => ?_)
 ·
  refine lx_value (want rfl) (rn_not rfl) ?_
  refine lx_value (want rfl) (mv_bool rfl) ?_
  refine lx_value (want_if (j := 6) (d := 12) (x := false) (y := false) rfl rfl (by decide) rfl) (rn_fieldAddr fa_45_1 rfl) ?_
  refine lx_value (want_if (j := 6) (d := 12) (x := false) (y := false) rfl rfl (by decide) rfl) (rn_load1Blk ag_43 rfl ((B1.ext Eb2).ext E1) rfl) ?_
  refine lx_value (want_if (j := 6) (d := 12) (x := false) (y := false) rfl rfl (by decide) rfl) (rn_len Tryz.underlying43 rfl) ?_
  refine lx_value (want_if (j := 6) (d := 12) (x := false) (y := false) rfl rfl (by decide) rfl) (rn_fieldAddr fa_45_1 rfl) ?_
  refine lx_value (want_if (j := 6) (d := 12) (x := false) (y := false) rfl rfl (by decide) rfl) (rn_load1Blk ag_43 rfl (B2.ext E1) rfl) ?_
  refine lx_value (want_if (j := 6) (d := 12) (x := false) (y := false) rfl rfl (by decide) rfl) (rn_len Tryz.underlying43 rfl) ?_
  refine lx_value (want_if (j := 6) (d := 12) (x := false) (y := false) rfl rfl (by decide) rfl) (rn_neq rfl rfl) ?_
  refine lx_dec (fun h2 => ?_) (fun h2 => ?_)
  ·
   refine lx_value (want rfl) (pick_f rfl rfl) ?_
   refine lx_nil ?_
   refine wk_cond_t rfl ?_
   refine wk_seq ?_
   refine wk_region ?_
   refine lx_value (want rfl) (as_bool rfl) ?_
   refine lx_nil ?_
   refine wk_ret ?_
   refine retR1 Tryz.results32 (.tmp (t_bool rfl)) F3 ?_
   exact no_dec (fun h => h2 (by rw [h]))
  ·
   refine lx_value (want rfl) (pick_f rfl rfl) ?_
   refine lx_nil ?_
   refine wk_cond_f rfl ?_
   refine wk_skip ?_
   refine wk_seq ?_
   refine wk_seq ?_
   refine wk_region ?_
   refine lx_value (want rfl) (as_int rfl) ?_
   refine lx_nil ?_
   refine wk_block ?_
   refine wk_loopA [4, 5, 21, 22, 23, 24, 25, 26, 27, 28, 29, 30, 31, 32, 33, 34, 35, 36, 37, 38, 39] no (fun nM ρ w => ∃ (i : Nat), nM = p.2.length - i ∧ ρ 5 = .int .i64 i ∧ (i ≤ p.2.length) ∧ (p.2.take i = q.2.take i)) _ ⟨0, rfl, rfl, by omega, rfl⟩ ?_
   rintro n1 ρ1 w4 A1 EL1 ⟨i, rfl, hs1_5, hi, hq⟩
   have F4 := F3.ext EL1
   have hzL1 := EL1.size
   refine wk_seq ?_
   refine wk_seq ?_
   refine wk_region ?_
   refine lx_value (want rfl) (mv_int hs1_5) ?_
   refine lx_value (want rfl) (rn_fieldAddr fa_45_1 (A1.at 2 rfl rfl)) ?_
   refine lx_value (want rfl) (rn_load1Blk ag_43 rfl (((B1.ext Eb2).ext E1).ext EL1) rfl) ?_
   refine lx_value (want rfl) (rn_len Tryz.underlying43 rfl) ?_
   refine lx_value (want rfl) (rn_lss rfl rfl) ?_
   refine lx_dec (fun hlt => ?_) (fun hlt => ?_)
   ·
    obtain ⟨x, hx⟩ := getx hlt
    obtain ⟨y, hy⟩ : ∃ y, q.2[i]? = some y := getx (by omega)
    obtain ⟨bx, ox, rfl, _, sx, cx, hcx, hpx⟩ := hk i x hx
    obtain ⟨by_, oy, rfl, _, sy, cy, hcy, hpy⟩ := hk2 i y hy
    refine lx_nil ?_
    refine wk_cond_t rfl ?_
    refine wk_skip ?_
    refine wk_seq ?_
    refine wk_block ?_
    refine wk_seq ?_
    refine wk_mix 10 (fun _ => .none) (by kernel_rfl) (by kernel_rfl) (fun kS G hk => by cases hk) (fun kS s y G hk => by cases hk) ?_
    simp only [List.take_succ_cons, List.take_zero, List.take_nil, List.drop_succ_cons, List.drop_zero, List.drop_nil]
    refine mx_calm rfl (want rfl) (fun u1 eu1 fu1 => rn_fieldAddr fa_45_1 (A1.at 2 rfl rfl)) ?_
    refine mx_calm rfl (want rfl) (fun u2 eu2 fu2 => rn_load1Blk ag_43 rfl ((((B1.ext Eb2).ext E1).ext EL1).ext ((ext_drawn _).trans' eu2)) rfl) ?_
    refine mx_calm rfl (want rfl) (fun u3 eu3 fu3 => mv_int hs1_5) ?_
    refine mx_calm rfl (want rfl) (fun u4 eu4 fu4 => rn_index _ Tryz.underlying43 sz_30 rfl rfl rfl (by omega)) ?_
    refine mx_calm rfl (want rfl) (fun u5 eu5 fu5 => rn_load1 ag_30 rfl ((F4.ext ((ext_drawn _).trans' eu5)).cell (fun h => h) hcx)) ?_
    refine mx_calm rfl (want rfl) (fun u6 eu6 fu6 => rn_fieldAddr fa_45_1 (A1.at 3 rfl rfl)) ?_
    refine mx_calm rfl (want rfl) (fun u7 eu7 fu7 => rn_load1Blk ag_43 rfl (((B2.ext E1).ext EL1).ext ((ext_drawn _).trans' eu7)) rfl) ?_
    refine mx_calm rfl (want rfl) (fun u8 eu8 fu8 => mv_int hs1_5) ?_
    refine mx_calm rfl (want rfl) (fun u9 eu9 fu9 => rn_index _ Tryz.underlying43 sz_30 rfl rfl rfl (by omega)) ?_
    refine mx_calm rfl (want rfl) (fun u10 eu10 fu10 => rn_load1 ag_30 rfl ((F4.ext ((ext_drawn _).trans' eu10)).cell (fun h => h) hcy)) ?_
    refine mx_nil (fun w5 E2' H1 HS => ?_)
    have E2 := (ext_drawn _).trans' E2'
    have F5 := F4.ext E2
    have hz2 := E2.size
    refine lx_call (want rfl) (ent_func cf_25 (argsC (t_slice rfl) (argsC (t_slice rfl) args0))) (samevalues_ct x y _ _ _ _ _ _ w5 (hpx.fr (vl_stab _) F5 (fun _ _ h => h)) (hpy.fr (vl_stab _) F5 (fun _ _ h => h)) (hB.get hy)) ?_
    rintro _ w6 E3 rfl
    have F6 := F5.ext E3
    have hz3 := E3.size
    refine lx_split (fun hne => ?_) (fun hne => ?_)
    ·
     refine lx_value (want rfl) (rn_not rfl) ?_
     refine lx_nil ?_
     refine wk_cond_f rfl ?_
     refine wk_skip ?_
     refine wk_region ?_
     refine lx_value (want rfl) (mv_int hs1_5) ?_
     refine lx_value (want rfl) (rn_add rfl rfl (by omega)) ?_
     refine lx_value (want rfl) (as_int rfl) ?_
     refine lx_nil ?_
     exact ⟨rfl, ((((((((((((((((((((A1.up rfl _).up rfl _).up rfl _).up rfl _).up rfl _).up rfl _).up rfl _).up rfl _).up rfl _).up rfl _).up rfl _).up rfl _).up rfl _).up rfl _).up rfl _).up rfl _).up rfl _).up rfl _).up rfl _).up rfl _), (Fr.ext (Fr.ext EL1 E2) E3), _, (by omega), i + 1, rfl, rfl, by omega, (eqs_step hq hx hy (of_decide_eq_true hne))⟩
    ·
     refine lx_value (want rfl) (rn_not rfl) ?_
     refine lx_nil ?_
     refine wk_cond_t rfl ?_
     refine wk_seq ?_
     refine wk_region ?_
     refine lx_value (want rfl) (as_bool rfl) ?_
     refine lx_nil ?_
     refine wk_ret ?_
     refine retR1 Tryz.results32 (.tmp (t_bool rfl)) F6 ?_
     exact no_dec (fun h => eqs_ne hx hy (of_decide_eq_false hne) (by rw [h]))
   ·
    refine lx_nil ?_
    refine wk_cond_f rfl ?_
    refine wk_exit ?_
    refine wk_seq ?_
    refine wk_region ?_
    refine lx_value (want rfl) (as_bool rfl) ?_
    refine lx_nil ?_
    refine wk_ret ?_
    refine retR1 Tryz.results32 (.tmp (t_bool rfl)) F4 ?_
    exact yes_dec (Prod.ext (of_decide_eq_true h1) (eqs_end hq (by omega) hlt))
 ·
  refine lx_value (want rfl) (rn_not rfl) ?_
  refine lx_value (want rfl) (mv_bool rfl) ?_
  refine lx_skip (want_if (j := 6) (d := 12) (x := false) (y := true) rfl rfl (by decide) rfl) ?_
  refine lx_skip (want_if (j := 6) (d := 12) (x := false) (y := true) rfl rfl (by decide) rfl) ?_
  refine lx_skip (want_if (j := 6) (d := 12) (x := false) (y := true) rfl rfl (by decide) rfl) ?_
  refine lx_skip (want_if (j := 6) (d := 12) (x := false) (y := true) rfl rfl (by decide) rfl) ?_
  refine lx_skip (want_if (j := 6) (d := 12) (x := false) (y := true) rfl rfl (by decide) rfl) ?_
  refine lx_skip (want_if (j := 6) (d := 12) (x := false) (y := true) rfl rfl (by decide) rfl) ?_
  refine lx_skip (want_if (j := 6) (d := 12) (x := false) (y := true) rfl rfl (by decide) rfl) ?_
  refine lx_value (want rfl) (pick_t rfl rfl) ?_
  refine lx_nil ?_
  refine wk_cond_t rfl ?_
  refine wk_seq ?_
  refine wk_region ?_
  refine lx_value (want rfl) (as_bool rfl) ?_
  refine lx_nil ?_
  refine wk_ret ?_
  refine retR1 Tryz.results32 (.tmp (t_bool rfl)) F3 ?_
  exact no_dec (fun h => of_decide_eq_false h1 (by rw [h]))

theorem isvalue_ct (k n : Int) (m : Nat) (hm : m ≤ 1048576) (w0 : World) :
  CT Tryz.prog 75 [.agg #[.int .u8 k, .int .i64 n], .int .i64 m] w0 no (fun v _ => v = .bool (isVal (k, n) m)) := by
 have F0 := Fr.refl no w0
 refine ct_body Tryz.func75 rfl Tryz.ntmps75 (Nat.le_of_ble_eq_true rfl) ?_
 refine wk_seq ?_
 refine wk_region ?_
 refine lx_new (want rfl) (rn_box (t_agg rfl)) ?_
 intro b1 w1 hb1 Eb1 B1 hlb1
 have F1 := F0.ext Eb1
 have hzb1 := Eb1.size
 refine lx_value (want rfl) (as_bool rfl) ?_
 refine lx_nil ?_
 refine wk_seq ?_
 refine wk_seq ?_
 refine wk_region ?_
 refine lx_value (want rfl) (rn_fieldAddr fa_36_0 rfl) ?_
 refine lx_value (want rfl) (rn_load1Blk ag_5 rfl B1 rfl) ?_
 refine lx_nil ?_
 refine wk_block ?_
 refine wk_seq ?_
 refine wk_seq ?_
 refine wk_region ?_
 refine lx_value (want rfl) (rn_eql rfl rfl) ?_
 refine lx_dec (fun h0 => ?_) (fun h0 => ?_)
 ·
  refine lx_value (want rfl) (as_bool rfl) ?_
  refine lx_nil ?_
  refine wk_cond_t rfl ?_
  refine wk_skip ?_
  refine wk_cond_t rfl ?_
  refine wk_seq ?_
  refine wk_region ?_
  refine lx_value (want rfl) (rn_fieldAddr fa_36_1 rfl) ?_
  refine lx_value (want rfl) (rn_load1Blk ag_3 rfl B1 rfl) ?_
  refine lx_value (want rfl) (rn_eql rfl rfl) ?_
  refine lx_value (want rfl) (as_bool rfl) ?_
  refine lx_nil ?_
  refine wk_ret ?_
  refine retR1 Tryz.results75 (.tmp (t_bool rfl)) F1 ?_
  exact val_zero (.inl h0)
 ·
  refine lx_value (want rfl) (as_bool rfl) ?_
  refine lx_nil ?_
  refine wk_cond_f rfl ?_
  refine wk_region ?_
  refine lx_value (want rfl) (rn_eql rfl rfl) ?_
  refine lx_dec (fun h3 => ?_) (fun h3 => ?_)
  ·
   refine lx_value (want rfl) (as_bool rfl) ?_
   refine lx_nil ?_
   refine wk_cond_t rfl ?_
   refine wk_seq ?_
   refine wk_region ?_
   refine lx_value (want rfl) (rn_fieldAddr fa_36_1 rfl) ?_
   refine lx_value (want rfl) (rn_load1Blk ag_3 rfl B1 rfl) ?_
   refine lx_value (want rfl) (rn_eql rfl rfl) ?_
   refine lx_value (want rfl) (as_bool rfl) ?_
   refine lx_nil ?_
   refine wk_ret ?_
   refine retR1 Tryz.results75 (.tmp (t_bool rfl)) F1 ?_
   exact val_zero (.inr h3)
  ·
   refine lx_value (want rfl) (as_bool rfl) ?_
   refine lx_nil ?_
   refine wk_cond_f rfl ?_
   refine wk_seq ?_
   refine wk_region ?_
   refine lx_value (want rfl) (rn_eql rfl rfl) ?_
   refine lx_dec (fun h1 => ?_) (fun h1 => ?_)
   ·
    refine lx_value (want rfl) (as_bool rfl) ?_
    refine lx_nil ?_
    refine wk_cond_t rfl ?_
    refine wk_seq ?_
    refine wk_region ?_
    refine lx_value (want rfl) (rn_fieldAddr fa_36_1 rfl) ?_
    refine lx_value (want rfl) (rn_load1Blk ag_3 rfl B1 rfl) ?_
    refine lx_call (want rfl) (ent_func cf_94 (argsC (t_int rfl) (argsC (t_int rfl) (argsC (t_int rfl) args0)))) (within_ct _ _ _ w1) ?_
    rintro _ w2 E1 rfl
    have F2 := F1.ext E1
    have hz1 := E1.size
    refine lx_value (want rfl) (as_bool rfl) ?_
    refine lx_nil ?_
    refine wk_ret ?_
    refine retR1 Tryz.results75 (.tmp (t_bool rfl)) F2 ?_
    exact val_int h1
   ·
    refine lx_value (want rfl) (as_bool rfl) ?_
    refine lx_nil ?_
    refine wk_cond_f rfl ?_
    refine wk_seq ?_
    refine wk_region ?_
    refine lx_value (want rfl) (rn_eql rfl rfl) ?_
    refine lx_dec (fun h2 => ?_) (fun h2 => ?_)
    ·
     refine lx_value (want rfl) (as_bool rfl) ?_
     refine lx_nil ?_
     refine wk_cond_t rfl ?_
     refine wk_seq ?_
     refine wk_region ?_
     refine lx_value (want rfl) (rn_fieldAddr fa_36_1 rfl) ?_
     refine lx_value (want rfl) (rn_load1Blk ag_3 rfl B1 rfl) ?_
     refine lx_call (want rfl) (ent_func cf_94 (argsC (t_int rfl) (argsC (t_int rfl) (argsC (t_int rfl) args0)))) (within_ct _ _ _ w1) ?_
     rintro _ w2 E2 rfl
     have F3 := F1.ext E2
     have hz2 := E2.size
     refine lx_value (want rfl) (as_bool rfl) ?_
     refine lx_nil ?_
     refine wk_ret ?_
     refine retR1 Tryz.results75 (.tmp (t_bool rfl)) F3 ?_
     exact val_bool h2
    ·
     refine lx_value (want rfl) (as_bool rfl) ?_
     refine lx_nil ?_
     refine wk_cond_f rfl ?_
     refine wk_seq ?_
     refine wk_region ?_
     refine lx_value (want rfl) (rn_eql rfl rfl) ?_
     refine lx_dec (fun h4 => ?_) (fun h4 => ?_)
     ·
      refine lx_value (want rfl) (as_bool rfl) ?_
      refine lx_nil ?_
      refine wk_cond_t rfl ?_
      refine wk_seq ?_
      refine wk_region ?_
      refine lx_value (want rfl) (rn_fieldAddr fa_36_1 rfl) ?_
      refine lx_value (want rfl) (rn_load1Blk ag_3 rfl B1 rfl) ?_
      refine lx_value (want rfl) (mv_int rfl) ?_
      refine lx_value (want rfl) (rn_sub rfl rfl (by omega)) ?_
      refine lx_call (want rfl) (ent_func cf_94 (argsC (t_int rfl) (argsC (t_int rfl) (argsC (t_int rfl) args0)))) (within_ct _ _ _ w1) ?_
      rintro _ w2 E3 rfl
      have F4 := F1.ext E3
      have hz3 := E3.size
      refine lx_value (want rfl) (as_bool rfl) ?_
      refine lx_nil ?_
      refine wk_ret ?_
      refine retR1 Tryz.results75 (.tmp (t_bool rfl)) F4 ?_
      exact val_ref h4
     ·
      refine lx_value (want rfl) (as_bool rfl) ?_
      refine lx_nil ?_
      refine wk_cond_f rfl ?_
      refine wk_seq ?_
      refine wk_region ?_
      refine lx_value (want rfl) (rn_eql rfl rfl) ?_
      refine lx_dec (fun h5 => ?_) (fun h5 => ?_)
      ·
       refine lx_value (want rfl) (as_bool rfl) ?_
       refine lx_nil ?_
       refine wk_cond_t rfl ?_
       refine wk_seq ?_
       refine wk_region ?_
       refine lx_value (want rfl) (rn_fieldAddr fa_36_1 rfl) ?_
       refine lx_value (want rfl) (rn_load1Blk ag_3 rfl B1 rfl) ?_
       refine lx_call (want rfl) (ent_func cf_94 (argsC (t_int rfl) (argsC (t_int rfl) (argsC (t_int rfl) args0)))) (within_ct _ _ _ w1) ?_
       rintro _ w2 E4 rfl
       have F5 := F1.ext E4
       have hz4 := E4.size
       refine lx_value (want rfl) (as_bool rfl) ?_
       refine lx_nil ?_
       refine wk_ret ?_
       refine retR1 Tryz.results75 (.tmp (t_bool rfl)) F5 ?_
       exact val_bad h5
      ·
       refine lx_value (want rfl) (as_bool rfl) ?_
       refine lx_nil ?_
       refine wk_cond_f rfl ?_
       refine wk_skip ?_
       refine wk_seq ?_
       refine wk_region ?_
       refine lx_value (want rfl) (as_bool rfl) ?_
       refine lx_nil ?_
       refine wk_ret ?_
       refine retR1 Tryz.results75 (.tmp (t_bool rfl)) F1 ?_
       exact val_no ⟨h0, h3, h1, h2, h4, h5⟩

theorem equalfv_ct (a b : List (List Vl)) (sa sb : Option Addr) (ca cb : Nat) (Fa Fb : Nat → Prop) (w0 : World) (ha : VvS Fa w0 sa a) (hb : VvS Fb w0 sb b) (hbb : b.length ≤ 1048576) (hbl : ∀ l ∈ b, l.length ≤ 1048576) :
  CT Tryz.prog 123 [.slice sa a.length ca, .slice sb b.length cb, .func (.func 122) #[] #[]] w0 no (fun v _ => v = .bool (decide (a = b))) := by
 have F0 := Fr.refl no w0
 refine ct_body Tryz.func123 rfl Tryz.ntmps123 (Nat.le_of_ble_eq_true rfl) ?_
 refine wk_seq ?_
 refine wk_region ?_
 refine lx_value (want rfl) (as_bool rfl) ?_
 refine lx_nil ?_
 refine wk_seq ?_
 refine wk_seq ?_
 refine wk_region ?_
 refine lx_value (want rfl) (mv_slice rfl) ?_
 refine lx_value (want rfl) (rn_len Tryz.underlying43 rfl) ?_
 refine lx_value (want rfl) (mv_slice rfl) ?_
 refine lx_value (want rfl) (rn_len Tryz.underlying43 rfl) ?_
 refine lx_value (want rfl) (rn_neq rfl rfl) ?_
 refine lx_dec (fun hl => ?_) (fun hl => ?_)
 ·
  refine lx_nil ?_
  refine wk_cond_t rfl ?_
  refine wk_seq ?_
  refine wk_region ?_
  refine lx_value (want rfl) (as_bool rfl) ?_
  refine lx_nil ?_
  refine wk_ret ?_
  refine retR1 Tryz.results123 (.tmp (t_bool rfl)) F0 ?_
  exact no_dec (len_ne hl)
 ·
  refine lx_nil ?_
  refine wk_cond_f rfl ?_
  refine wk_skip ?_
  refine wk_seq ?_
  refine wk_seq ?_
  refine wk_region ?_
  refine lx_value (want rfl) (mv_slice rfl) ?_
  refine lx_value (want rfl) (rn_len Tryz.underlying43 rfl) ?_
  refine lx_value (want rfl) (mv_int rfl) ?_
  refine lx_nil ?_
  refine wk_block ?_
  refine wk_loopA [6, 7, 8, 9, 17, 18, 19, 20, 21, 22, 23, 24, 25, 26, 27, 28, 29, 30, 31] no (fun nM ρ w => ∃ (i : Nat), nM = a.length - i ∧ ρ 17 = .int .i64 i ∧ (i ≤ a.length) ∧ (a.take i = b.take i)) _ ⟨0, rfl, rfl, by omega, rfl⟩ ?_
  rintro n1 ρ1 w1 A1 EL1 ⟨i, rfl, hs1_17, hi, hq⟩
  have F1 := F0.ext EL1
  have hzL1 := EL1.size
  refine wk_seq ?_
  refine wk_region ?_
  refine lx_value (want rfl) (rn_lss hs1_17 (A1.at 16 rfl rfl)) ?_
  refine lx_dec (fun hlt => ?_) (fun hlt => ?_)
  ·
   obtain ⟨x, hx⟩ := getx hlt
   obtain ⟨y, hy⟩ : ∃ y, b[i]? = some y := getx (by omega)
   obtain ⟨bx, ox, rfl, _, sx, cx, hcx, hpx⟩ := ha i x hx
   obtain ⟨by_, oy, rfl, _, sy, cy, hcy, hpy⟩ := hb i y hy
   refine lx_nil ?_
   refine wk_seq ?_
   refine wk_cond_t rfl ?_
   refine wk_skip ?_
   refine wk_seq ?_
   refine wk_block ?_
   refine wk_seq ?_
   refine wk_region ?_
   refine lx_value (want rfl) (mv_int hs1_17) ?_
   refine lx_value (want rfl) (rn_index _ Tryz.underlying43 sz_30 (A1.at 15 rfl rfl) hs1_17 rfl (by omega)) ?_
   refine lx_value (want rfl) (rn_load1 ag_30 rfl (F1.cell (fun h => h) hcx)) ?_
   refine lx_value (want rfl) (as_int rfl) ?_
   refine lx_value (want rfl) (as_slice rfl) ?_
   refine lx_nil ?_
   refine wk_seq ?_
   refine wk_region ?_
   refine lx_value (want rfl) (mv_slice (A1.at 1 rfl rfl)) ?_
   refine lx_value (want rfl) (mv_int rfl) ?_
   refine lx_value (want rfl) (rn_index _ Tryz.underlying43 sz_30 rfl rfl rfl (by omega)) ?_
   refine lx_value (want rfl) (rn_load1 ag_30 rfl (F1.cell (fun h => h) hcy)) ?_
   refine lx_value (want rfl) (as_slice rfl) ?_
   refine lx_nil ?_
   refine wk_seq ?_
   refine wk_region ?_
   refine lx_value (want rfl) (mv_func (A1.at 2 rfl rfl)) ?_
   refine lx_value (want rfl) (mv_slice rfl) ?_
   refine lx_value (want rfl) (mv_slice rfl) ?_
   refine lx_call (want rfl) (ent_value cf_122 rfl (argsC (t_slice rfl) (argsC (t_slice rfl) args0))) (equalv_ct x y _ _ _ _ _ _ w1 (hpx.fr (vl_stab _) F1 (fun _ _ h => h)) (hpy.fr (vl_stab _) F1 (fun _ _ h => h)) (hbl y (List.mem_of_getElem? hy))) ?_
   rintro _ w2 E1 rfl
   have F2 := F1.ext E1
   have hz1 := E1.size
   refine lx_split (fun hne => ?_) (fun hne => ?_)
   ·
    refine lx_value (want rfl) (rn_not rfl) ?_
    refine lx_nil ?_
    refine wk_cond_f rfl ?_
    refine wk_skip ?_
    refine wk_region ?_
    refine lx_value (want rfl) (rn_add hs1_17 rfl (by omega)) ?_
    refine lx_value (want rfl) (mv_int rfl) ?_
    refine lx_nil ?_
    exact ⟨rfl, ((((((((((((((((((A1.up rfl _).up rfl _).up rfl _).up rfl _).up rfl _).up rfl _).up rfl _).up rfl _).up rfl _).up rfl _).up rfl _).up rfl _).up rfl _).up rfl _).up rfl _).up rfl _).up rfl _).up rfl _), (Fr.ext EL1 E1), _, (by omega), i + 1, rfl, rfl, by omega, (eqs_step hq hx hy (of_decide_eq_true hne))⟩
   ·
    refine lx_value (want rfl) (rn_not rfl) ?_
    refine lx_nil ?_
    refine wk_cond_t rfl ?_
    refine wk_seq ?_
    refine wk_region ?_
    refine lx_value (want rfl) (as_bool rfl) ?_
    refine lx_nil ?_
    refine wk_ret ?_
    refine retR1 Tryz.results123 (.tmp (t_bool rfl)) F2 ?_
    exact no_dec (eqs_ne hx hy (of_decide_eq_false hne))
  ·
   refine lx_nil ?_
   refine wk_seq ?_
   refine wk_cond_f rfl ?_
   refine wk_exit ?_
   refine wk_seq ?_
   refine wk_region ?_
   refine lx_value (want rfl) (as_bool rfl) ?_
   refine lx_nil ?_
   refine wk_ret ?_
   refine retR1 Tryz.results123 (.tmp (t_bool rfl)) F1 ?_
   exact yes_dec (eqs_end hq (by omega) hlt)

theorem psize_ct (m : Mem) (b : Nat) (s : Option Addr) (c : Nat) (T : List (SE Vl Rd)) (wt : Int) (st : Option Addr) (nt ct : Nat) (z : Vl) (hs : z.1 = 4 → 0 ≤ z.2 ∧ num z < m.length) (w0 : World) (hBm : Blk w0 b [.slice s T.length c, .int .i64 wt, .slice st nt ct] 113) (hT : T.map SE.abs = m) (hTm : MTab w0 65 36 2 vlC 115 2 rdC s c T) :
  CT Tryz.prog 118 [.pointer (some ⟨b, 0, none⟩), .agg #[.int .u8 z.1, .int .i64 z.2]] w0 no (fun v _ => v = vlV (sizeR m z)) := by
 have hlb := hBm.lt
 have F0 := Fr.refl no w0
 refine ct_body Tryz.func118 rfl Tryz.ntmps118 (Nat.le_of_ble_eq_true rfl) ?_
 refine wk_seq ?_
 refine wk_region ?_
 refine lx_new (want rfl) (rn_box (t_agg rfl)) ?_
 intro b21 w1 hb21 Eb21 B21 hlb21
 have F1 := F0.ext Eb21
 have hzb21 := Eb21.size
 refine lx_new (want rfl) (rn_alloc ze_36) ?_
 intro b22 w2 hb22 Eb22 B22 hlb22
 have F2 := F1.ext Eb22
 have hzb22 := Eb22.size
 refine lx_nil ?_
 refine wk_seq ?_
 refine wk_seq ?_
 refine wk_region ?_
 refine lx_value (want rfl) (rn_fieldAddr fa_36_0 rfl) ?_
 refine lx_value (want rfl) (rn_load1Blk ag_5 rfl (B21.ext Eb22) rfl) ?_
 refine lx_nil ?_
 refine wk_block ?_
 refine wk_seq ?_
 refine wk_region ?_
 refine lx_value (want rfl) (rn_eql rfl rfl) ?_
 refine lx_dec (fun h4 => ?_) (fun h4 => ?_)
 ·
  obtain ⟨hs0, hsl⟩ := hs h4
  obtain ⟨x, hx⟩ : ∃ x, m[num z]? = some x := ⟨_, List.getElem?_eq_getElem hsl⟩
  obtain ⟨sA, cA, sB, cB, he⟩ := mtab_at hT hx
  obtain ⟨bT, oT, hsT, hcA, hcB⟩ := hTm.get he
  have hltT := (List.getElem?_eq_some_iff.1 he).1
  subst hsT
  refine lx_value (want rfl) (as_bool rfl) ?_
  refine lx_nil ?_
  refine wk_cond_t rfl ?_
  refine wk_seq ?_
  refine wk_mix 6 (fun _ => .none) (by kernel_rfl) (by kernel_rfl) (fun kS G hk => by cases hk) (fun kS s y G hk => by cases hk) ?_
  simp only [List.take_succ_cons, List.take_zero, List.take_nil, List.drop_succ_cons, List.drop_zero, List.drop_nil]
  refine mx_calm rfl (want rfl) (fun u1 eu1 fu1 => mv_pointer rfl) ?_
  refine mx_calm rfl (want rfl) (fun u2 eu2 fu2 => rn_nilCheck rfl) ?_
  refine mx_calm rfl (want rfl) (fun u3 eu3 fu3 => rn_fieldAddr fa_113_0 rfl) ?_
  refine mx_calm rfl (want rfl) (fun u4 eu4 fu4 => rn_load1Blk ag_22 rfl (((hBm.ext Eb21).ext Eb22).ext ((ext_drawn _).trans' eu4)) rfl) ?_
  refine mx_calm rfl (want rfl) (fun u5 eu5 fu5 => rn_fieldAddr fa_36_1 rfl) ?_
  refine mx_calm rfl (want rfl) (fun u6 eu6 fu6 => rn_load1Blk ag_3 rfl ((B21.ext Eb22).ext ((ext_drawn _).trans' eu6)) rfl) ?_
  refine mx_nil (fun w3 E1' H1 HS => ?_)
  have E1 := (ext_drawn _).trans' E1'
  have F3 := F2.ext E1
  have hz1 := E1.size
  refine lx_value (want rfl) (rn_index (num z) Tryz.underlying22 sz_65 rfl rfl (by unfold num; omega) hltT) ?_
  refine lx_value (want rfl) (rn_fieldAddr fa_65_0 rfl) ?_
  refine lx_value (want rfl) (rn_load1 ag_30 rfl (F3.cell (fun h => h) (show _ = some (Value.slice sA x.1.length cA) from hcA))) ?_
  refine lx_value (want rfl) (rn_len Tryz.underlying30 rfl) ?_
  refine lx_call (want rfl) (ent_func cf_108 (argsC (t_int rfl) args0)) (integer_ct _ w3) ?_
  rintro _ w4 E2 rfl
  have F4 := F3.ext E2
  have hz2 := E2.size
  refine lx_set (want rfl) sz_36 rfl (t_agg rfl) rfl rfl rfl ((B22.ext E1).ext E2) (Nat.le_of_ble_eq_true rfl) ?_
  intro w5 Es1 Bs1
  have F5 := F4.set Es1 (by omega)
  have hzs1 := Es1.size
  refine lx_nil ?_
  refine wk_ret ?_
  refine retR1 Tryz.results118 (.cell rfl (run_loadVar_blk ag_36 sz_36 Bs1 rfl rfl)) F5 ?_
  exact siz_4 h4 hx
 ·
  refine lx_value (want rfl) (as_bool rfl) ?_
  refine lx_nil ?_
  refine wk_cond_f rfl ?_
  refine wk_seq ?_
  refine wk_region ?_
  refine lx_value (want rfl) (rn_eql rfl rfl) ?_
  refine lx_dec (fun h5 => ?_) (fun h5 => ?_)
  ·
   refine lx_value (want rfl) (as_bool rfl) ?_
   refine lx_nil ?_
   refine wk_cond_t rfl ?_
   refine wk_seq ?_
   refine wk_region ?_
   refine lx_value (want rfl) (rn_loadBlk ag_36 sz_36 rfl (B21.ext Eb22) rfl rfl) ?_
   refine lx_set (want rfl) sz_36 rfl (t_agg rfl) rfl rfl rfl B22 (Nat.le_of_ble_eq_true rfl) ?_
   intro w3 Es2 Bs2
   have F6 := F2.set Es2 (by omega)
   have hzs2 := Es2.size
   refine lx_nil ?_
   refine wk_ret ?_
   refine retR1 Tryz.results118 (.cell rfl (run_loadVar_blk ag_36 sz_36 Bs2 rfl rfl)) F6 ?_
   exact siz_5 h5
  ·
   refine lx_value (want rfl) (as_bool rfl) ?_
   refine lx_nil ?_
   refine wk_cond_f rfl ?_
   refine wk_skip ?_
   refine wk_seq ?_
   refine wk_region ?_
   refine lx_call (want rfl) (ent_func cf_141 (argsC (t_int rfl) args0)) (bad_ct _ w2) ?_
   rintro _ w3 E3 rfl
   have F7 := F2.ext E3
   have hz3 := E3.size
   refine lx_set (want rfl) sz_36 rfl (t_agg rfl) rfl rfl rfl (B22.ext E3) (Nat.le_of_ble_eq_true rfl) ?_
   intro w4 Es3 Bs3
   have F8 := F7.set Es3 (by omega)
   have hzs3 := Es3.size
   refine lx_nil ?_
   refine wk_ret ?_
   refine retR1 Tryz.results118 (.cell rfl (run_loadVar_blk ag_36 sz_36 Bs3 rfl rfl)) F8 ?_
   exact siz_no h5 h4

theorem isstruct2_ct (r : Rd) (cl : List Vl) (b3 : Nat) (sc : Option Addr) (cc : Nat) (s2 : Option Addr) (n2 c2 : Nat) (F : Nat → Prop) (hb : cl.length ≤ 1048576) (w0 : World) (B3 : Blk w0 b3 [.slice sc cl.length cc, .slice s2 n2 c2] 65) (hl : VlS F w0 sc cl) :
  CT Tryz.prog 151 [.agg #[.int .i64 r.1, .int .i64 r.2], .pointer (some ⟨b3, 0, none⟩)] w0 no (fun v _ => v = .bool (!waitB cl r)) := by
 have F0 := Fr.refl no w0
 refine ct_body Tryz.func151 rfl Tryz.ntmps151 (Nat.le_of_ble_eq_true rfl) ?_
 refine wk_seq ?_
 refine wk_region ?_
 refine lx_new (want rfl) (rn_box (t_agg rfl)) ?_
 intro b21 w1 hb21 Eb21 B21 hlb21
 have F1 := F0.ext Eb21
 have hzb21 := Eb21.size
 refine lx_value (want rfl) (as_bool rfl) ?_
 refine lx_nil ?_
 refine wk_seq ?_
 refine wk_region ?_
 refine lx_value (want rfl) (rn_fieldAddr fa_115_0 rfl) ?_
 refine lx_value (want rfl) (rn_load1Blk ag_3 rfl B21 rfl) ?_
 refine lx_value (want rfl) (rn_fieldAddr fa_65_0 rfl) ?_
 refine lx_value (want rfl) (rn_load1Blk ag_30 rfl (B3.ext Eb21) rfl) ?_
 refine lx_value (want rfl) (rn_len Tryz.underlying30 rfl) ?_
 refine lx_value (want rfl) (rn_sub rfl rfl (by omega)) ?_
 refine lx_call (want rfl) (ent_func cf_94 (argsC (t_int rfl) (argsC (t_int rfl) (argsC (t_int rfl) args0)))) (within_ct _ _ _ w1) ?_
 rintro _ w2 E1 rfl
 have F2 := F1.ext E1
 have hz1 := E1.size
 refine lx_split (fun hin => ?_) (fun hin => ?_)
 ·
  have hin2 := of_decide_eq_true hin
  obtain ⟨u, hu⟩ : ∃ u, cl[r.1.toNat]? = some u := ⟨_, List.getElem?_eq_getElem (by omega)⟩
  obtain ⟨bu, ou, hsu, _, hcu⟩ := hl _ u hu
  subst hsu
  refine lx_value (want rfl) (rn_not rfl) ?_
  refine lx_value (want rfl) (mv_bool rfl) ?_
  refine lx_value (want_if (j := 8) (d := 12) (x := false) (y := false) rfl rfl (by decide) rfl) (rn_fieldAddr fa_65_0 rfl) ?_
  refine lx_value (want_if (j := 8) (d := 12) (x := false) (y := false) rfl rfl (by decide) rfl) (rn_load1Blk ag_30 rfl ((B3.ext Eb21).ext E1) rfl) ?_
  refine lx_value (want_if (j := 8) (d := 12) (x := false) (y := false) rfl rfl (by decide) rfl) (rn_fieldAddr fa_115_0 rfl) ?_
  refine lx_value (want_if (j := 8) (d := 12) (x := false) (y := false) rfl rfl (by decide) rfl) (rn_load1Blk ag_3 rfl (B21.ext E1) rfl) ?_
  refine lx_value (want_if (j := 8) (d := 12) (x := false) (y := false) rfl rfl (by decide) rfl) (rn_index r.1.toNat Tryz.underlying30 sz_36 rfl rfl (by omega) (by omega)) ?_
  refine lx_value (want_if (j := 8) (d := 12) (x := false) (y := false) rfl rfl (by decide) rfl) (rn_load2 ag_36 sz_36 rfl (F2.cell (fun h => h) (hcu 0 _ rfl)) (F2.cell (fun h => h) (hcu 1 _ rfl))) ?_
  refine lx_call (want_if (j := 8) (d := 12) (x := false) (y := false) rfl rfl (by decide) rfl) (ent_func cf_99 (argsC (t_agg rfl) args0)) (ishole_ct _ _ w2) ?_
  rintro _ w3 E2 rfl
  have F3 := F2.ext E2
  have hz2 := E2.size
  refine lx_value (want_if (j := 8) (d := 12) (x := false) (y := false) rfl rfl (by decide) rfl) (rn_not rfl) ?_
  refine lx_value (want rfl) (pick_f rfl rfl) ?_
  refine lx_value (want rfl) (as_bool rfl) ?_
  refine lx_nil ?_
  refine wk_ret ?_
  refine retR1 Tryz.results151 (.tmp (t_bool rfl)) F3 ?_
  exact is2_f hin2 hu
 ·
  refine lx_value (want rfl) (rn_not rfl) ?_
  refine lx_value (want rfl) (mv_bool rfl) ?_
  refine lx_skip (want_if (j := 8) (d := 12) (x := false) (y := true) rfl rfl (by decide) rfl) ?_
  refine lx_skip (want_if (j := 8) (d := 12) (x := false) (y := true) rfl rfl (by decide) rfl) ?_
  refine lx_skip (want_if (j := 8) (d := 12) (x := false) (y := true) rfl rfl (by decide) rfl) ?_
  refine lx_skip (want_if (j := 8) (d := 12) (x := false) (y := true) rfl rfl (by decide) rfl) ?_
  refine lx_skip (want_if (j := 8) (d := 12) (x := false) (y := true) rfl rfl (by decide) rfl) ?_
  refine lx_skip (want_if (j := 8) (d := 12) (x := false) (y := true) rfl rfl (by decide) rfl) ?_
  refine lx_skip (want_if (j := 8) (d := 12) (x := false) (y := true) rfl rfl (by decide) rfl) ?_
  refine lx_skip (want_if (j := 8) (d := 12) (x := false) (y := true) rfl rfl (by decide) rfl) ?_
  refine lx_value (want rfl) (pick_t rfl rfl) ?_
  refine lx_value (want rfl) (as_bool rfl) ?_
  refine lx_nil ?_
  refine wk_ret ?_
  refine retR1 Tryz.results151 (.tmp (t_bool rfl)) F2 ?_
  exact is2_t (of_decide_eq_false hin)

theorem writestr_ct (Z : Nat → Prop) (b : Nat) (bs : List UInt8) (sk : Option Addr) (nk ck : Nat) (str : ByteArray) (hbd : bs.length + str.size ≤ 1073741824) (w0 : World) (hM : SH Z w0 b bs sk nk ck) :
  CT Tryz.prog 143 [.pointer (some ⟨b, 0, none⟩), .string str] w0 Z (fun v w => ∃ Z2, SH Z2 w b (bs ++ str.data.toList) sk nk ck ∧ ∀ k, Z2 k → Z k ∨ w0.heap.size ≤ k) := by
 obtain ⟨ad, sB, cB, hBs, had, hOs, h0s, hns, hZb50, hZo2, hZl⟩ := hM
 have hlb := hBs.lt
 have F0 := Fr.refl Z w0
 have zo2 : ∀ k, ob sB k → Z k ∨ w0.heap.size ≤ k := fun k h => .inl (hZo2 k h)
 refine ct_body Tryz.func143 rfl Tryz.ntmps143 (Nat.le_of_ble_eq_true rfl) ?_
 refine wk_seq ?_
 refine wk_region ?_
 refine lx_value (want rfl) (as_int rfl) ?_
 refine lx_value (want rfl) (rn_assign rfl) ?_
 refine lx_nil ?_
 refine wk_seq ?_
 refine wk_region ?_
 refine lx_value (want rfl) (mv_pointer rfl) ?_
 refine lx_call (want rfl) (ent_func cf_155 (argsC (t_pointer rfl) args0)) (copycheck_ct (fun kq => kq = b) b ad had rfl _ _ w0 hBs) ?_
 rintro _ w1 E1 ⟨rfl, hBC⟩
 have F1 := F0.new' E1 (fun kq => (fun h => (fun h => by rw [h]; exact (.inl hZb50)) h))
 have hz1 := E1.size
 refine lx_nil ?_
 refine wk_seq ?_
 refine wk_region ?_
 refine lx_value (want rfl) (mv_pointer rfl) ?_
 refine lx_value (want rfl) (mv_pointer rfl) ?_
 refine lx_value (want rfl) (rn_nilCheck rfl) ?_
 refine lx_value (want rfl) (rn_fieldAddr fa_147_1 rfl) ?_
 refine lx_value (want rfl) (rn_load1Blk ag_123 rfl hBC rfl) ?_
 refine lx_value (want rfl) (mv_string rfl) ?_
 have hOo1 := (hOs.fr E1 (fun k h1 => (fun h => (fun h => hns _ h1 h) h)))
 refine lx_appendS (want rfl) Tryz.underlying123 Tryz.underlying9 ti_5 rfl rfl hOo1 (by omega) ?_
 intro sq1 cq1 w2 AP1 hq1
 have EA1 := AP1.fr
 have ow1 := AP1.own
 have ge1 : ∀ k, ob sq1 k → Z k ∨ w0.heap.size ≤ k := fun k hk => (AP1.blk k hk).elim (zo2 k) (fun h => .inr (Nat.le_trans F1.size h))
 have ne1_50 : ∀ k, ob sq1 k → k ≠ b := fun k hk => (AP1.blk k hk).elim (hns k) (fun h => by have := (hBC).lt; omega)
 have F2 := F1.new' EA1 zo2
 have hzA1 := EA1.size
 have BA1_50 := hBC.fr EA1 (fun h => hns _ h rfl)
 have hbf := buf_at h0s hq1
 refine lx_value (want rfl) (rn_nilCheck rfl) ?_
 refine lx_value (want rfl) (rn_fieldAddr fa_147_1 rfl) ?_
 refine lx_set (want rfl) sz_123 rfl (t_slice rfl) rfl rfl rfl BA1_50 (Nat.le_of_ble_eq_true rfl) ?_
 intro w3 Es1 Bs1
 have F3 := F2.new' Es1 (fun k h => by have h : k = b := h; rw [h]; exact (.inl hZb50))
 have hzs1 := Es1.size
 refine lx_nil ?_
 refine wk_seq ?_
 refine wk_region ?_
 refine lx_value (want rfl) (mv_string rfl) ?_
 refine lx_value (want rfl) (rn_lenS Tryz.underlying9 rfl) ?_
 refine lx_value (want rfl) (as_int rfl) ?_
 refine lx_value (want rfl) (rn_assign rfl) ?_
 refine lx_nil ?_
 refine wk_ret ?_
 refine retR2 Tryz.results143 (.tmp (t_int rfl)) (.tmp rfl) F3 ?_
 exact sh_mk Bs1 (by rw [List.length_append, sz_str]) (.inr rfl) (own_str (ow1.ne Es1 (fun h => ne1_50 _ h rfl))) hbf ne1_50 (.inl hZb50) ge1

theorem tangled_ct (w0 : World) :
  CT Tryz.prog 69 [] w0 no (fun v w => ∃ s c, v = .agg #[.slice s 2 c] ∧ MemS (fun _ => True) w s tangM) := by
 have F0 := Fr.refl no w0
 refine ct_body Tryz.func69 rfl Tryz.ntmps69 (Nat.le_of_ble_eq_true rfl) ?_
 refine wk_seq ?_
 refine wk_region ?_
 refine lx_new (want rfl) (rn_alloc ze_24) ?_
 intro b1 w1 hb1 Eb1 B1 hlb1
 have F1 := F0.ext Eb1
 have hzb1 := Eb1.size
 refine lx_nil ?_
 refine wk_seq ?_
 refine wk_region ?_
 refine lx_call (want rfl) (ent_func cf_61 (argsC (t_int rfl) args0)) (ref_ct _ w1) ?_
 rintro _ w2 E1 rfl
 have F2 := F1.ext E1
 have hz1 := E1.size
 refine lx_newS (want rfl) (rn_bslice (xs := [.tmp 1]) Tryz.underlying30 sz_36 ze_36 rfl (argsC (t_agg rfl) args0) (CL.cons rfl rfl CL.nil) rfl (Nat.le_of_ble_eq_true rfl)) ?_
 intro b2 w3 hb2 Eb2 B2 hlb2
 have F3 := F2.ext Eb2
 have hzb2 := Eb2.size
 refine lx_value (want rfl) (rn_build1 (t_slice rfl) (fun w => bd_65_0 _ _ _ w)) ?_
 refine lx_call (want rfl) (ent_func cf_61 (argsC (t_int rfl) args0)) (ref_ct _ w3) ?_
 rintro _ w4 E2 rfl
 have F4 := F3.ext E2
 have hz2 := E2.size
 refine lx_value (want rfl) (rn_build0  (fun w => bd_36  w)) ?_
 refine lx_newS (want rfl) (rn_bslice (xs := [.tmp 4, .tmp 5]) Tryz.underlying30 sz_36 ze_36 rfl (argsC (t_agg rfl) (argsC (t_agg rfl) args0)) (CL.cons rfl rfl (CL.cons rfl rfl CL.nil)) rfl (Nat.le_of_ble_eq_true rfl)) ?_
 intro b3 w5 hb3 Eb3 B3 hlb3
 have F5 := F4.ext Eb3
 have hzb3 := Eb3.size
 refine lx_value (want rfl) (rn_build1 (t_slice rfl) (fun w => bd_65_0 _ _ _ w)) ?_
 refine lx_newS (want rfl) (rn_bslice (xs := [.tmp 3, .tmp 7]) Tryz.underlying22 sz_65 ze_65 rfl (argsC (t_agg rfl) (argsC (t_agg rfl) args0)) (CL.cons rfl rfl (CL.cons rfl rfl CL.nil)) rfl (Nat.le_of_ble_eq_true rfl)) ?_
 intro b4 w6 hb4 Eb4 B4 hlb4
 have F6 := F5.ext Eb4
 have hzb4 := Eb4.size
 refine lx_value (want rfl) (rn_build1 (t_slice rfl) (fun w => bd_24_0 _ _ _ w)) ?_
 refine lx_set (want rfl) sz_24 rfl (t_agg rfl) rfl rfl rfl (((((B1.ext E1).ext Eb2).ext E2).ext Eb3).ext Eb4) (Nat.le_of_ble_eq_true rfl) ?_
 intro w7 Es1 Bs1
 have F7 := F6.set Es1 (by omega)
 have hzs1 := Es1.size
 refine lx_nil ?_
 refine wk_ret ?_
 refine retR1 Tryz.results69 (.cell rfl (run_loadVar_blk ag_24 sz_24 Bs1 rfl rfl)) F7 ?_
 exact ⟨_, _, rfl, mem2_blk (l1 := [(4, 1)]) (l2 := [(4, 1), (0, 0)]) rfl rfl (by decide) (by decide) (B4.ne Es1 (by omega)) ((((B2.ext E2).ext Eb3).ext Eb4).ne Es1 (by omega)) ((B3.ext Eb4).ne Es1 (by omega))⟩

end Go.Proofs.YtnhgfmbmfjmonaaGreatDoor

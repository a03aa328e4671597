/- What functions compute: refread. -/
import Derived.Test.YtnhgfmbmfjmonaaGreatDoorPlaysFacts
import Derived.Test.YtnhgfmbmfjmonaaGreatDoorPlaysPre
import Derived.Test.YtnhgfmbmfjmonaaGreatDoorPlaysWalk2
import Derived.Test.YtnhgfmbmfjmonaaGreatDoorPlaysWalk4
import Derived.Test.YtnhgfmbmfjmonaaGreatDoorPlaysWalk6
set_option maxRecDepth 100000
set_option linter.unusedVariables false
set_option linter.unusedSimpArgs false
namespace Go.Proofs.YtnhgfmbmfjmonaaGreatDoor
open Go Go.RowKit Go.Mix Go.Eng
set_option maxRecDepth 100000 in
theorem refread_ct (m : Mem) (s : Option Addr) (c : Nat) (G : Nat → Prop) (hB : Bm m) (s2 ix : Vl) (hs : s2.1 = 4 → 0 ≤ s2.2 ∧ num s2 < m.length) (rd : Int) (w0 : World) (hm : MemS G w0 s m) :
    CT Tryz.prog 90 [.agg #[.slice s m.length c], .agg #[.int .u8 s2.1, .int .i64 s2.2], .agg #[.int .u8 ix.1, .int .i64 ix.2], .int .i64 rd] w0 no (fun v w => OutA G w0.heap.size w v (readR m s2 ix rd)) := by
  have hBl := hB.1
  have F0 := Fr.refl no w0
  refine ct_body Tryz.func90 rfl Tryz.ntmps90 (Nat.le_of_ble_eq_true rfl) ?_
  refine wk_seq ?_
  refine wk_region ?_
  refine lx_new (want rfl) (rn_box (t_agg rfl)) ?_
  intro b1 w1 hb1 Eb1 B1 hlb1
  have F1 := F0.ext Eb1
  have hzb1 := Eb1.size
  refine lx_new (want rfl) (rn_box (t_agg rfl)) ?_
  intro b2 w2 hb2 Eb2 B2 hlb2
  have F2 := F1.ext Eb2
  have hzb2 := Eb2.size
  refine lx_new (want rfl) (rn_box (t_agg rfl)) ?_
  intro b3 w3 hb3 Eb3 B3 hlb3
  have F3 := F2.ext Eb3
  have hzb3 := Eb3.size
  refine lx_new (want rfl) (rn_alloc ze_24) ?_
  intro b4 w4 hb4 Eb4 B4 hlb4
  have F4 := F3.ext Eb4
  have hzb4 := Eb4.size
  refine lx_new (want rfl) (rn_alloc ze_36) ?_
  intro b5 w5 hb5 Eb5 B5 hlb5
  have F5 := F4.ext Eb5
  have hzb5 := Eb5.size
  refine lx_value (want rfl) (as_int rfl) ?_
  refine lx_nil ?_
  refine wk_seq ?_
  refine wk_block ?_
  refine wk_seq ?_
  refine wk_region ?_
  refine lx_value (want rfl) (rn_fieldAddr fa_36_0 rfl) ?_
  refine lx_value (want rfl) (rn_load1Blk ag_5 rfl (((B2.ext Eb3).ext Eb4).ext Eb5) rfl) ?_
  refine lx_value (want rfl) (rn_eql rfl rfl) ?_
  refine lx_dec (fun h5 => ?_) (fun h5 => ?_)
  ·
    refine lx_value (want rfl) (as_bool rfl) ?_
    refine lx_nil ?_
    refine wk_cond_t rfl ?_
    refine wk_seq ?_
    refine wk_mixK 3 8 (B4.ext Eb5) (fun kS => match kS with | 2 => .sto 8 17 (fun J u w => J.1 < J.2 ∧ Blk w J.1 u.cells.toList 24) | _ => .none) (by kernel_rfl) (by kernel_rfl) (by intro kS G hk; (try dsimp only at hk); (split at hk) <;> first | (cases hk; done) | (injection hk with hk; subst hk; exact ⟨by intro j hkj I v w w' hR hG; first | exact hG, fun _ I v w w' hR hG => by first | exact hG⟩)) (by intro kS s y G hk; (try dsimp only at hk); (split at hk) <;> first | (cases hk; done) | (injection hk with hk1 hk2 hk3; subst hk1; subst hk2; subst hk3; exact ⟨by kernel_rfl, by intro j hkj I v w w' hR hG; exact ⟨hG.1, hG.2.ext hR⟩, fun I v w w' hR hG => ⟨hG.1, hG.2.fr hR (fun h => h.2 ⟨Nat.le_refl _, hG.1⟩)⟩⟩)) ?_
    simp only [List.take_succ_cons, List.take_zero, List.take_nil, List.drop_succ_cons, List.drop_zero, List.drop_nil]
    refine mx_calm rfl (want rfl) (fun u1 eu1 fu1 => rn_loadBlk ag_24 sz_24 rfl (((((B1.ext Eb2).ext Eb3).ext Eb4).ext Eb5).fr (mG eu1) (show ¬ (b1 = b4) by omega)) rfl rfl) ?_
    refine mx_calm rfl (want rfl) (fun u2 eu2 fu2 => rn_loadBlk ag_36 sz_36 rfl ((((B2.ext Eb3).ext Eb4).ext Eb5).fr (mG eu2) (show ¬ (b2 = b4) by omega)) rfl rfl) ?_
    refine mx_sto rfl rfl rfl rfl (want rfl) (fun u3 eu3 fu3 _ => by obtain hB8 := fu3 8 _ rfl (show (8 : Nat) ∈ _ from by decide); exact (do_sto sz_24 rfl rfl rfl rfl rfl hB8 rfl ⟨Nat.le_refl _, (Nat.lt_succ_self _)⟩).mono (fun v w' h => ⟨h.1, h.2.1, (Nat.lt_succ_self _), h.2.2⟩)) ?_
    refine mx_nil (fun w6 E1' H1 HS => ?_)
    have E1 := mG E1'
    have F6 := F5.set E1 (by omega)
    have hz1 := E1.size
    obtain ⟨_, _, hBK6⟩ := H1 8 _ rfl
    refine lx_set (want rfl) sz_36 rfl (t_agg rfl) rfl rfl rfl (B5.ne E1 (by omega)) (Nat.le_of_ble_eq_true rfl) ?_
    intro w7 Es1 Bs1
    have F7 := F6.set Es1 (by omega)
    have hzs1 := Es1.size
    refine lx_value (want rfl) (as_int rfl) ?_
    refine lx_nil ?_
    refine wk_ret ?_
    refine retR3 Tryz.results90 (.cell rfl (run_loadVar_blk ag_24 sz_24 (hBK6.ne Es1 (by omega)) rfl rfl)) (.cell rfl (run_loadVar_blk ag_36 sz_36 Bs1 rfl rfl)) (.tmp (t_int rfl)) F7 ?_
    exact rd_s h5 (memO_old (hm.fr (st_stab _) F7 (fun _ _ h => h)))
  ·
    refine lx_value (want rfl) (as_bool rfl) ?_
    refine lx_nil ?_
    refine wk_cond_f rfl ?_
    refine wk_seq ?_
    refine wk_region ?_
    refine lx_value (want rfl) (rn_fieldAddr fa_36_0 rfl) ?_
    refine lx_value (want rfl) (rn_load1Blk ag_5 rfl ((B3.ext Eb4).ext Eb5) rfl) ?_
    refine lx_value (want rfl) (rn_eql rfl rfl) ?_
    refine lx_dec (fun hi => ?_) (fun hi => ?_)
    ·
      refine lx_value (want rfl) (as_bool rfl) ?_
      refine lx_nil ?_
      refine wk_cond_t rfl ?_
      refine wk_seq ?_
      refine wk_mixK 3 8 (B4.ext Eb5) (fun kS => match kS with | 2 => .sto 8 23 (fun J u w => J.1 < J.2 ∧ Blk w J.1 u.cells.toList 24) | _ => .none) (by kernel_rfl) (by kernel_rfl) (by intro kS G hk; (try dsimp only at hk); (split at hk) <;> first | (cases hk; done) | (injection hk with hk; subst hk; exact ⟨by intro j hkj I v w w' hR hG; first | exact hG, fun _ I v w w' hR hG => by first | exact hG⟩)) (by intro kS s y G hk; (try dsimp only at hk); (split at hk) <;> first | (cases hk; done) | (injection hk with hk1 hk2 hk3; subst hk1; subst hk2; subst hk3; exact ⟨by kernel_rfl, by intro j hkj I v w w' hR hG; exact ⟨hG.1, hG.2.ext hR⟩, fun I v w w' hR hG => ⟨hG.1, hG.2.fr hR (fun h => h.2 ⟨Nat.le_refl _, hG.1⟩)⟩⟩)) ?_
      simp only [List.take_succ_cons, List.take_zero, List.take_nil, List.drop_succ_cons, List.drop_zero, List.drop_nil]
      refine mx_calm rfl (want rfl) (fun u4 eu4 fu4 => rn_loadBlk ag_24 sz_24 rfl (((((B1.ext Eb2).ext Eb3).ext Eb4).ext Eb5).fr (mG eu4) (show ¬ (b1 = b4) by omega)) rfl rfl) ?_
      refine mx_calm rfl (want rfl) (fun u5 eu5 fu5 => rn_loadBlk ag_36 sz_36 rfl (((B3.ext Eb4).ext Eb5).fr (mG eu5) (show ¬ (b3 = b4) by omega)) rfl rfl) ?_
      refine mx_sto rfl rfl rfl rfl (want rfl) (fun u6 eu6 fu6 _ => by obtain hB8 := fu6 8 _ rfl (show (8 : Nat) ∈ _ from by decide); exact (do_sto sz_24 rfl rfl rfl rfl rfl hB8 rfl ⟨Nat.le_refl _, (Nat.lt_succ_self _)⟩).mono (fun v w' h => ⟨h.1, h.2.1, (Nat.lt_succ_self _), h.2.2⟩)) ?_
      refine mx_nil (fun w6 E2' H2 HS => ?_)
      have E2 := mG E2'
      have F8 := F5.set E2 (by omega)
      have hz2 := E2.size
      obtain ⟨_, _, hBK6⟩ := H2 8 _ rfl
      refine lx_set (want rfl) sz_36 rfl (t_agg rfl) rfl rfl rfl (B5.ne E2 (by omega)) (Nat.le_of_ble_eq_true rfl) ?_
      intro w7 Es2 Bs2
      have F9 := F8.set Es2 (by omega)
      have hzs2 := Es2.size
      refine lx_value (want rfl) (as_int rfl) ?_
      refine lx_nil ?_
      refine wk_ret ?_
      refine retR3 Tryz.results90 (.cell rfl (run_loadVar_blk ag_24 sz_24 (hBK6.ne Es2 (by omega)) rfl rfl)) (.cell rfl (run_loadVar_blk ag_36 sz_36 Bs2 rfl rfl)) (.tmp (t_int rfl)) F9 ?_
      exact rd_ix h5 hi (memO_old (hm.fr (st_stab _) F9 (fun _ _ h => h)))
    ·
      refine lx_value (want rfl) (as_bool rfl) ?_
      refine lx_nil ?_
      refine wk_cond_f rfl ?_
      refine wk_seq ?_
      refine wk_region ?_
      refine lx_value (want rfl) (rn_fieldAddr fa_36_0 rfl) ?_
      refine lx_value (want rfl) (rn_load1Blk ag_5 rfl (((B2.ext Eb3).ext Eb4).ext Eb5) rfl) ?_
      refine lx_value (want rfl) (rn_eql rfl rfl) ?_
      refine lx_dec (fun h3 => ?_) (fun h3 => ?_)
      ·
        refine lx_value (want rfl) (as_bool rfl) ?_
        refine lx_nil ?_
        refine wk_cond_t rfl ?_
        refine wk_seq ?_
        refine wk_mix 2 (fun kS => match kS with | 1 => .val (.agg #[.int .u8 5, .int .i64 3]) | _ => .none) (by kernel_rfl) (by kernel_rfl) (by intro kS G hk; (try dsimp only at hk); (split at hk) <;> first | (cases hk; done) | (injection hk with hk; subst hk; exact ⟨by intro j hkj I v w w' hR hG; first | exact hG, fun ⟨_, _, _, _, hs⟩ => by (try dsimp only at hs); split at hs <;> cases hs⟩)) (by intro kS s y G hk; (try dsimp only at hk); split at hk <;> cases hk) ?_
        simp only [List.take_succ_cons, List.take_zero, List.take_nil, List.drop_succ_cons, List.drop_zero, List.drop_nil]
        refine mx_calm rfl (want rfl) (fun u7 eu7 fu7 => rn_loadBlk ag_24 sz_24 rfl (((((B1.ext Eb2).ext Eb3).ext Eb4).ext Eb5).ext ((ext_drawn _).trans' eu7)) rfl rfl) ?_
        refine mx_val rfl (want rfl) (fun u8 eu8 fu8 => do_call (ent_func cf_67 (argsC (t_int rfl) args0)) (refbad_ct _ u8) (fun _ _ E h => ⟨E, h⟩)) ?_
        refine mx_nil (fun w6 E3' H3 HS => ?_)
        have E3 := (ext_drawn _).trans' E3'
        have F10 := F5.ext E3
        have hz3 := E3.size
        refine lx_set (want rfl) sz_24 rfl (t_agg rfl) rfl rfl rfl ((B4.ext Eb5).ext E3) (Nat.le_of_ble_eq_true rfl) ?_
        intro w7 Es3 Bs3
        have F11 := F10.set Es3 (by omega)
        have hzs3 := Es3.size
        refine lx_set (want rfl) sz_36 rfl (t_agg rfl) rfl rfl rfl ((B5.ext E3).ne Es3 (by omega)) (Nat.le_of_ble_eq_true rfl) ?_
        intro w8 Es4 Bs4
        have F12 := F11.set Es4 (by omega)
        have hzs4 := Es4.size
        refine lx_value (want rfl) (as_int rfl) ?_
        refine lx_nil ?_
        refine wk_ret ?_
        refine retR3 Tryz.results90 (.cell rfl (run_loadVar_blk ag_24 sz_24 (Bs3.ne Es4 (by omega)) rfl rfl)) (.cell rfl (run_loadVar_blk ag_36 sz_36 Bs4 rfl rfl)) (.tmp (t_int rfl)) F12 ?_
        exact rd_nil h5 hi h3 (memO_old (hm.fr (st_stab _) F12 (fun _ _ h => h)))
      ·
        refine lx_value (want rfl) (as_bool rfl) ?_
        refine lx_nil ?_
        refine wk_cond_f rfl ?_
        refine wk_seq ?_
        refine wk_region ?_
        refine lx_value (want rfl) (rn_fieldAddr fa_36_0 rfl) ?_
        refine lx_value (want rfl) (rn_load1Blk ag_5 rfl (((B2.ext Eb3).ext Eb4).ext Eb5) rfl) ?_
        refine lx_value (want rfl) (rn_neq rfl rfl) ?_
        refine lx_dec (fun h4 => ?_) (fun h4 => ?_)
        ·
          refine lx_value (want rfl) (mv_bool rfl) ?_
          refine lx_skip (want_if (j := 3) (d := 35) (x := false) (y := true) rfl rfl (by decide) rfl) ?_
          refine lx_skip (want_if (j := 3) (d := 35) (x := false) (y := true) rfl rfl (by decide) rfl) ?_
          refine lx_skip (want_if (j := 3) (d := 35) (x := false) (y := true) rfl rfl (by decide) rfl) ?_
          refine lx_value (want rfl) (pick_t rfl rfl) ?_
          refine lx_value (want rfl) (as_bool rfl) ?_
          refine lx_nil ?_
          refine wk_cond_t rfl ?_
          refine wk_seq ?_
          refine wk_mix 2 (fun kS => match kS with | 1 => .val (.agg #[.int .u8 5, .int .i64 5]) | _ => .none) (by kernel_rfl) (by kernel_rfl) (by intro kS G hk; (try dsimp only at hk); (split at hk) <;> first | (cases hk; done) | (injection hk with hk; subst hk; exact ⟨by intro j hkj I v w w' hR hG; first | exact hG, fun ⟨_, _, _, _, hs⟩ => by (try dsimp only at hs); split at hs <;> cases hs⟩)) (by intro kS s y G hk; (try dsimp only at hk); split at hk <;> cases hk) ?_
          simp only [List.take_succ_cons, List.take_zero, List.take_nil, List.drop_succ_cons, List.drop_zero, List.drop_nil]
          refine mx_calm rfl (want rfl) (fun u9 eu9 fu9 => rn_loadBlk ag_24 sz_24 rfl (((((B1.ext Eb2).ext Eb3).ext Eb4).ext Eb5).ext ((ext_drawn _).trans' eu9)) rfl rfl) ?_
          refine mx_val rfl (want rfl) (fun u10 eu10 fu10 => do_call (ent_func cf_67 (argsC (t_int rfl) args0)) (refbad_ct _ u10) (fun _ _ E h => ⟨E, h⟩)) ?_
          refine mx_nil (fun w6 E4' H4 HS => ?_)
          have E4 := (ext_drawn _).trans' E4'
          have F13 := F5.ext E4
          have hz4 := E4.size
          refine lx_set (want rfl) sz_24 rfl (t_agg rfl) rfl rfl rfl ((B4.ext Eb5).ext E4) (Nat.le_of_ble_eq_true rfl) ?_
          intro w7 Es5 Bs5
          have F14 := F13.set Es5 (by omega)
          have hzs5 := Es5.size
          refine lx_set (want rfl) sz_36 rfl (t_agg rfl) rfl rfl rfl ((B5.ext E4).ne Es5 (by omega)) (Nat.le_of_ble_eq_true rfl) ?_
          intro w8 Es6 Bs6
          have F15 := F14.set Es6 (by omega)
          have hzs6 := Es6.size
          refine lx_value (want rfl) (as_int rfl) ?_
          refine lx_nil ?_
          refine wk_ret ?_
          refine retR3 Tryz.results90 (.cell rfl (run_loadVar_blk ag_24 sz_24 (Bs5.ne Es6 (by omega)) rfl rfl)) (.cell rfl (run_loadVar_blk ag_36 sz_36 Bs6 rfl rfl)) (.tmp (t_int rfl)) F15 ?_
          exact rd_kind h5 hi h3 (fun g => h4 g.1) (memO_old (hm.fr (st_stab _) F15 (fun _ _ h => h)))
        ·
          refine lx_value (want rfl) (mv_bool rfl) ?_
          refine lx_value (want_if (j := 3) (d := 35) (x := false) (y := false) rfl rfl (by decide) rfl) (rn_fieldAddr fa_36_0 rfl) ?_
          refine lx_value (want_if (j := 3) (d := 35) (x := false) (y := false) rfl rfl (by decide) rfl) (rn_load1Blk ag_5 rfl ((B3.ext Eb4).ext Eb5) rfl) ?_
          refine lx_value (want_if (j := 3) (d := 35) (x := false) (y := false) rfl rfl (by decide) rfl) (rn_neq rfl rfl) ?_
          refine lx_dec (fun h1 => ?_) (fun h1 => ?_)
          ·
            refine lx_value (want rfl) (pick_f rfl rfl) ?_
            refine lx_value (want rfl) (as_bool rfl) ?_
            refine lx_nil ?_
            refine wk_cond_t rfl ?_
            refine wk_seq ?_
            refine wk_mix 2 (fun kS => match kS with | 1 => .val (.agg #[.int .u8 5, .int .i64 5]) | _ => .none) (by kernel_rfl) (by kernel_rfl) (by intro kS G hk; (try dsimp only at hk); (split at hk) <;> first | (cases hk; done) | (injection hk with hk; subst hk; exact ⟨by intro j hkj I v w w' hR hG; first | exact hG, fun ⟨_, _, _, _, hs⟩ => by (try dsimp only at hs); split at hs <;> cases hs⟩)) (by intro kS s y G hk; (try dsimp only at hk); split at hk <;> cases hk) ?_
            simp only [List.take_succ_cons, List.take_zero, List.take_nil, List.drop_succ_cons, List.drop_zero, List.drop_nil]
            refine mx_calm rfl (want rfl) (fun u11 eu11 fu11 => rn_loadBlk ag_24 sz_24 rfl (((((B1.ext Eb2).ext Eb3).ext Eb4).ext Eb5).ext ((ext_drawn _).trans' eu11)) rfl rfl) ?_
            refine mx_val rfl (want rfl) (fun u12 eu12 fu12 => do_call (ent_func cf_67 (argsC (t_int rfl) args0)) (refbad_ct _ u12) (fun _ _ E h => ⟨E, h⟩)) ?_
            refine mx_nil (fun w6 E5' H5 HS => ?_)
            have E5 := (ext_drawn _).trans' E5'
            have F16 := F5.ext E5
            have hz5 := E5.size
            refine lx_set (want rfl) sz_24 rfl (t_agg rfl) rfl rfl rfl ((B4.ext Eb5).ext E5) (Nat.le_of_ble_eq_true rfl) ?_
            intro w7 Es7 Bs7
            have F17 := F16.set Es7 (by omega)
            have hzs7 := Es7.size
            refine lx_set (want rfl) sz_36 rfl (t_agg rfl) rfl rfl rfl ((B5.ext E5).ne Es7 (by omega)) (Nat.le_of_ble_eq_true rfl) ?_
            intro w8 Es8 Bs8
            have F18 := F17.set Es8 (by omega)
            have hzs8 := Es8.size
            refine lx_value (want rfl) (as_int rfl) ?_
            refine lx_nil ?_
            refine wk_ret ?_
            refine retR3 Tryz.results90 (.cell rfl (run_loadVar_blk ag_24 sz_24 (Bs7.ne Es8 (by omega)) rfl rfl)) (.cell rfl (run_loadVar_blk ag_36 sz_36 Bs8 rfl rfl)) (.tmp (t_int rfl)) F18 ?_
            exact rd_kind h5 hi h3 (fun g => h1 g.2) (memO_old (hm.fr (st_stab _) F18 (fun _ _ h => h)))
          ·
            refine lx_value (want rfl) (pick_f rfl rfl) ?_
            refine lx_value (want rfl) (as_bool rfl) ?_
            refine lx_nil ?_
            refine wk_cond_f rfl ?_
            refine wk_seq ?_
            refine wk_region ?_
            refine lx_value (want rfl) (rn_loadBlk ag_24 sz_24 rfl ((((B1.ext Eb2).ext Eb3).ext Eb4).ext Eb5) rfl rfl) ?_
            refine lx_value (want rfl) (rn_loadBlk ag_36 sz_36 rfl (((B2.ext Eb3).ext Eb4).ext Eb5) rfl rfl) ?_
            refine lx_value (want rfl) (rn_loadBlk ag_36 sz_36 rfl ((B3.ext Eb4).ext Eb5) rfl rfl) ?_
            refine lx_call (want rfl) (ent_func cf_142 (argsC (t_agg rfl) (argsC (t_agg rfl) (argsC (t_agg rfl) args0)))) (fits_ct m _ _ _ hB _ _ hs w5 (hm.fr (st_stab _) F5 (fun _ _ h => h))) ?_
            rintro _ w6 E6 rfl
            have F19 := F5.ext E6
            have hz6 := E6.size
            refine lx_split (fun hf => ?_) (fun hf => ?_)
            ·
              obtain ⟨x, hx, hsx, hnx, hni, h4f, h1f⟩ := fit_at hf
              obtain ⟨hs0, hsl⟩ := hs h4f
              obtain ⟨bx, ox, rfl, _, sc, cc, sw, cw, hcx, hcy, hcv, hcr⟩ := hm _ x hx
              have hBx := hB.get hx
              obtain ⟨u, hu⟩ : ∃ u, x.1[num ix]? = some u := ⟨_, List.getElem?_eq_getElem hnx⟩
              obtain ⟨bu, ou, hsu, _, hcu⟩ := hcv _ u hu
              subst hsu
              refine lx_value (want rfl) (rn_not rfl) ?_
              refine lx_value (want rfl) (as_bool rfl) ?_
              refine lx_nil ?_
              refine wk_cond_f rfl ?_
              refine wk_skip ?_
              refine wk_seq ?_
              refine wk_mix 13 (fun kS => match kS with | 11 => .any (fun I v w => v = .pointer (some ⟨I.1, 0, none⟩) ∧ w6.heap.size ≤ I.1 ∧ I.1 < I.2 ∧ Blk w I.1 [.int .u8 0, .int .i64 0] 36) | 12 => .sto 11 60 (fun J u w => J.1 < J.2 ∧ Blk w J.1 u.cells.toList 36) | _ => .none) (by kernel_rfl) (by kernel_rfl) (by intro kS G hk; (try dsimp only at hk); (split at hk) <;> first | (cases hk; done) | (injection hk with hk; subst hk; exact ⟨by intro j hkj I v w w' hR hG; first | exact hG | (obtain ⟨h1, h2, hI, h3⟩ := hG; exact ⟨h1, h2, hI, h3.ext hR⟩), fun _ I v w w' hR hG => by first | exact hG | (obtain ⟨h1, h2, hI, h3⟩ := hG; exact ⟨h1, h2, hI, h3.fr hR (fun h => h.2 ⟨Nat.le_refl _, hI⟩)⟩)⟩)) (by intro kS s y G hk; (try dsimp only at hk); (split at hk) <;> first | (cases hk; done) | (injection hk with hk1 hk2 hk3; subst hk1; subst hk2; subst hk3; exact ⟨by kernel_rfl, by intro j hkj I v w w' hR hG; exact ⟨hG.1, hG.2.ext hR⟩, fun I v w w' hR hG => ⟨hG.1, hG.2.fr hR (fun h => h.2 ⟨Nat.le_refl _, hG.1⟩)⟩⟩)) ?_
              simp only [List.take_succ_cons, List.take_zero, List.take_nil, List.drop_succ_cons, List.drop_zero, List.drop_nil]
              refine mx_calm rfl (want rfl) (fun u13 eu13 fu13 => rn_fieldAddr fa_24_0 rfl) ?_
              refine mx_calm rfl (want rfl) (fun u14 eu14 fu14 => rn_load1Blk ag_22 rfl ((((((B1.ext Eb2).ext Eb3).ext Eb4).ext Eb5).ext E6).ext ((ext_drawn _).trans' eu14)) rfl) ?_
              refine mx_calm rfl (want rfl) (fun u15 eu15 fu15 => rn_fieldAddr fa_36_1 rfl) ?_
              refine mx_calm rfl (want rfl) (fun u16 eu16 fu16 => rn_load1Blk ag_3 rfl (((((B2.ext Eb3).ext Eb4).ext Eb5).ext E6).ext ((ext_drawn _).trans' eu16)) rfl) ?_
              refine mx_calm rfl (want rfl) (fun u17 eu17 fu17 => rn_index (num s2) Tryz.underlying22 sz_65 rfl rfl (by unfold num; omega) hsl) ?_
              refine mx_calm rfl (want rfl) (fun u18 eu18 fu18 => rn_fieldAddr fa_65_0 rfl) ?_
              refine mx_calm rfl (want rfl) (fun u19 eu19 fu19 => rn_load1 ag_30 rfl ((F19.ext ((ext_drawn _).trans' eu19)).cell (fun h => h) hcx)) ?_
              refine mx_calm rfl (want rfl) (fun u20 eu20 fu20 => rn_fieldAddr fa_36_1 rfl) ?_
              refine mx_calm rfl (want rfl) (fun u21 eu21 fu21 => rn_load1Blk ag_3 rfl ((((B3.ext Eb4).ext Eb5).ext E6).ext ((ext_drawn _).trans' eu21)) rfl) ?_
              refine mx_calm rfl (want rfl) (fun u22 eu22 fu22 => rn_index (num ix) Tryz.underlying30 sz_36 rfl rfl hni.symm hnx) ?_
              refine mx_calm rfl (want rfl) (fun u23 eu23 fu23 => rn_load2 ag_36 sz_36 rfl ((F19.ext ((ext_drawn _).trans' eu23)).cell (fun h => h) (hcu 0 _ rfl)) ((F19.ext ((ext_drawn _).trans' eu23)).cell (fun h => h) (hcu 1 _ rfl))) ?_
              refine mx_any rfl rfl (want rfl) (fun u24 eu24 fu24 => (do_new3 (rn_alloc ze_36) (show _ ≤ _ from (((ext_drawn _).trans' eu24)).size)).mono (fun v w' h => ⟨h.1, h.2⟩)) (fun I11 v11 => ?_)
              refine mx_sto rfl rfl rfl rfl (want rfl) (fun u25 eu25 fu25 _ => by obtain ⟨rfl, hl11, hi11, hB11⟩ := fu25 11 _ rfl (show (11 : Nat) ∈ _ from by decide); exact (do_sto sz_36 rfl rfl rfl rfl rfl hB11 rfl ⟨Nat.le_refl _, hi11⟩).mono (fun v w' h => ⟨h.1, h.2.1, hi11, h.2.2⟩)) ?_
              refine mx_nil (fun w7 E7' H6 HS => ?_)
              have E7 := (ext_drawn _).trans' E7'
              have F20 := F19.ext E7
              have hz7 := E7.size
              have hI11 := (HS.1 11 _ rfl).2
              simp only at hI11
              have g11 := H6 11 _ rfl
              obtain ⟨⟨_, hv11, hb11, _, _⟩, hi11, hB11⟩ := g11; subst hv11; have hlb11 := hB11.lt
              refine lx_nil ?_
              refine wk_seq ?_
              refine wk_seq ?_
              refine wk_region ?_
              refine lx_value (want rfl) (rn_fieldAddr fa_36_0 rfl) ?_
              refine lx_value (want rfl) (rn_load1Blk ag_5 rfl hB11 rfl) ?_
              refine lx_value (want rfl) (rn_neq rfl rfl) ?_
              refine lx_dec (fun h0 => ?_) (fun h0 => ?_)
              ·
                refine lx_nil ?_
                refine wk_cond_t rfl ?_
                refine wk_seq ?_
                refine wk_mixK 3 8 (((B4.ext Eb5).ext E6).ext E7) (fun kS => match kS with | 2 => .sto 8 64 (fun J u w => J.1 < J.2 ∧ Blk w J.1 u.cells.toList 24) | _ => .none) (by kernel_rfl) (by kernel_rfl) (by intro kS G hk; (try dsimp only at hk); (split at hk) <;> first | (cases hk; done) | (injection hk with hk; subst hk; exact ⟨by intro j hkj I v w w' hR hG; first | exact hG, fun _ I v w w' hR hG => by first | exact hG⟩)) (by intro kS s y G hk; (try dsimp only at hk); (split at hk) <;> first | (cases hk; done) | (injection hk with hk1 hk2 hk3; subst hk1; subst hk2; subst hk3; exact ⟨by kernel_rfl, by intro j hkj I v w w' hR hG; exact ⟨hG.1, hG.2.ext hR⟩, fun I v w w' hR hG => ⟨hG.1, hG.2.fr hR (fun h => h.2 ⟨Nat.le_refl _, hG.1⟩)⟩⟩)) ?_
                simp only [List.take_succ_cons, List.take_zero, List.take_nil, List.drop_succ_cons, List.drop_zero, List.drop_nil]
                refine mx_calm rfl (want rfl) (fun u26 eu26 fu26 => rn_loadBlk ag_24 sz_24 rfl (((((((B1.ext Eb2).ext Eb3).ext Eb4).ext Eb5).ext E6).ext E7).fr (mG eu26) (show ¬ (b1 = b4) by omega)) rfl rfl) ?_
                refine mx_calm rfl (want rfl) (fun u27 eu27 fu27 => rn_loadBlk ag_36 sz_36 rfl (hB11.fr (mG eu27) (show ¬ (I11.1 = b4) by omega)) rfl rfl) ?_
                refine mx_sto rfl rfl rfl rfl (want rfl) (fun u28 eu28 fu28 _ => by obtain hB8 := fu28 8 _ rfl (show (8 : Nat) ∈ _ from by decide); exact (do_sto sz_24 rfl rfl rfl rfl rfl hB8 rfl ⟨Nat.le_refl _, (Nat.lt_succ_self _)⟩).mono (fun v w' h => ⟨h.1, h.2.1, (Nat.lt_succ_self _), h.2.2⟩)) ?_
                refine mx_nil (fun w8 E8' H7 HS => ?_)
                have E8 := mG E8'
                have F21 := F20.set E8 (by omega)
                have hz8 := E8.size
                obtain ⟨_, _, hBK8⟩ := H7 8 _ rfl
                refine lx_set (want rfl) sz_36 rfl (t_agg rfl) rfl rfl rfl (((B5.ext E6).ext E7).ne E8 (by omega)) (Nat.le_of_ble_eq_true rfl) ?_
                intro w9 Es9 Bs9
                have F22 := F21.set Es9 (by omega)
                have hzs9 := Es9.size
                refine lx_value (want rfl) (as_int rfl) ?_
                refine lx_nil ?_
                refine wk_ret ?_
                refine retR3 Tryz.results90 (.cell rfl (run_loadVar_blk ag_24 sz_24 (hBK8.ne Es9 (by omega)) rfl rfl)) (.cell rfl (run_loadVar_blk ag_36 sz_36 Bs9 rfl rfl)) (.tmp (t_int rfl)) F22 ?_
                exact rd_val hf hsx hu h0 (memO_old (hm.fr (st_stab _) F22 (fun _ _ h => h)))
              ·
                refine lx_nil ?_
                refine wk_cond_f rfl ?_
                refine wk_skip ?_
                refine wk_seq ?_
                refine wk_seq ?_
                refine wk_region ?_
                refine lx_value (want rfl) (rn_loadBlk ag_24 sz_24 rfl ((((((B1.ext Eb2).ext Eb3).ext Eb4).ext Eb5).ext E6).ext E7) rfl rfl) ?_
                refine lx_call (want rfl) (ent_func cf_62 (argsC (t_agg rfl) args0)) (reads_ct m _ _ _ hB w7 (hm.fr (st_stab _) F20 (fun _ _ h => h))) ?_
                rintro _ w8 E9 rfl
                have F23 := F20.ext E9
                have hz9 := E9.size
                refine lx_value (want rfl) (rn_geq rfl rfl) ?_
                refine lx_dec (fun hw => ?_) (fun hw => ?_)
                ·
                  refine lx_nil ?_
                  refine wk_cond_t rfl ?_
                  refine wk_seq ?_
                  refine wk_region ?_
                  refine lx_value (want rfl) (rn_loadBlk ag_24 sz_24 rfl (((((((B1.ext Eb2).ext Eb3).ext Eb4).ext Eb5).ext E6).ext E7).ext E9) rfl rfl) ?_
                  refine lx_value (want rfl) (rn_build0  (fun w => bd_36  w)) ?_
                  refine lx_set (want rfl) sz_24 rfl (t_agg rfl) rfl rfl rfl ((((B4.ext Eb5).ext E6).ext E7).ext E9) (Nat.le_of_ble_eq_true rfl) ?_
                  intro w9 Es10 Bs10
                  have F24 := F23.set Es10 (by omega)
                  have hzs10 := Es10.size
                  refine lx_set (want rfl) sz_36 rfl (t_agg rfl) rfl rfl rfl ((((B5.ext E6).ext E7).ext E9).ne Es10 (by omega)) (Nat.le_of_ble_eq_true rfl) ?_
                  intro w10 Es11 Bs11
                  have F25 := F24.set Es11 (by omega)
                  have hzs11 := Es11.size
                  refine lx_value (want rfl) (as_int rfl) ?_
                  refine lx_nil ?_
                  refine wk_ret ?_
                  refine retR3 Tryz.results90 (.cell rfl (run_loadVar_blk ag_24 sz_24 (Bs10.ne Es11 (by omega)) rfl rfl)) (.cell rfl (run_loadVar_blk ag_36 sz_36 Bs11 rfl rfl)) (.tmp (t_int rfl)) F25 ?_
                  exact rd_full hf hsx hu h0 hw
                ·
                  refine lx_nil ?_
                  refine wk_cond_f rfl ?_
                  refine wk_skip ?_
                  refine wk_seq ?_
                  refine wk_region ?_
                  refine lx_value (want rfl) (rn_loadBlk ag_24 sz_24 rfl (((((((B1.ext Eb2).ext Eb3).ext Eb4).ext Eb5).ext E6).ext E7).ext E9) rfl rfl) ?_
                  refine lx_call (want rfl) (ent_func cf_20 (argsC (t_agg rfl) args0)) (copy_ct m _ _ _ hB w8 (hm.fr (st_stab _) F23 (fun _ _ h => h))) ?_
                  rintro _ w9 E10 ⟨sC, cC, TC, rfl, hTC, hTabC, hgC⟩
                  have F26 := F23.ext E10
                  have hz10 := E10.size
                  have tg2 : ∀ k, mtb sC TC k → w0.heap.size ≤ k := fun k hk => ((mtb_inr hgC) k hk).elim ((fun _ h => mtb_nil h) k) (fun h => by omega)
                  have tn2_1 : ∀ k, mtb sC TC k → k ≠ b1 := fun k hk => ((mtb_inr hgC) k hk).elim ((fun _ h => mtb_nil h) k) (fun h => by have := (B1).lt; omega)
                  have tn2_2 : ∀ k, mtb sC TC k → k ≠ b2 := fun k hk => ((mtb_inr hgC) k hk).elim ((fun _ h => mtb_nil h) k) (fun h => by have := (B2).lt; omega)
                  have tn2_3 : ∀ k, mtb sC TC k → k ≠ b3 := fun k hk => ((mtb_inr hgC) k hk).elim ((fun _ h => mtb_nil h) k) (fun h => by have := (B3).lt; omega)
                  have tn2_4 : ∀ k, mtb sC TC k → k ≠ b4 := fun k hk => ((mtb_inr hgC) k hk).elim ((fun _ h => mtb_nil h) k) (fun h => by have := (B4).lt; omega)
                  have tn2_5 : ∀ k, mtb sC TC k → k ≠ b5 := fun k hk => ((mtb_inr hgC) k hk).elim ((fun _ h => mtb_nil h) k) (fun h => by have := (B5).lt; omega)
                  have tn2_1011 : ∀ k, mtb sC TC k → k ≠ I11.1 := fun k hk => ((mtb_inr hgC) k hk).elim ((fun _ h => mtb_nil h) k) (fun h => by have := (hB11).lt; omega)
                  refine lx_new (want rfl) (rn_alloc ze_24) ?_
                  intro b6 w10 hb6 Eb6 B6 hlb6
                  have F27 := F26.ext Eb6
                  have hzb6 := Eb6.size
                  have nb1 : ∀ k, mtb sC TC k → k ≠ b6 := fun k hk => by have := (hTabC).lt hk; omega
                  refine lx_set (want rfl) sz_24 rfl (t_agg rfl) rfl rfl rfl B6 (Nat.le_of_ble_eq_true rfl) ?_
                  intro w11 Es12 Bs12
                  have F28 := F27.set Es12 (by omega)
                  have hzs12 := Es12.size
                  refine lx_nil ?_
                  refine wk_seq ?_
                  obtain ⟨sA, cA, sB, cB, he⟩ := mtab_at hTC hx
                  obtain ⟨bT, oT, hsT, hcA, hcB⟩ := (((hTabC.ext Eb6).fr Es12 (fun k hk h => nb1 k hk h))).get he
                  subst hsT
                  have hlt := (List.getElem?_eq_some_iff.1 he).1
                  have hTo := ((hTabC.ext Eb6).fr Es12 (fun k hk h => nb1 k hk h))
                  have hOw := hTo.ownB _ _ he
                  have hSl : ∀ k, (ob sB) k → k < w11.heap.size := fun k h => (((hTabC.ext Eb6).fr Es12 (fun k hk h => nb1 k hk h))).lt (.inr ⟨_, _, he, .inr h⟩)
                  refine wk_mixA 17 16 (ob sB) (fun kS => match kS with | 15 => .any (fun I v w => ∃ b, v = .slice (some ⟨b, 0, none⟩) 1 1 ∧ w11.heap.size ≤ b ∧ (I.1 ≤ b ∧ b < I.2) ∧ Blk w b [.int .i64 ix.2, .int .i64 rd] 115) | 16 => .any (fun I v w => ∃ s c, v = .slice s (x.2 ++ [(ix.2, rd)]).length c ∧ OwnS w 115 2 s (x.2 ++ [(ix.2, rd)]).length c ((x.2 ++ [(ix.2, rd)]).flatMap rdC) ∧ ∀ k, ob s k → (ob sB k ∨ w11.heap.size ≤ k)) | _ => .none) (by kernel_rfl) (by kernel_rfl) (by intro kS G hk; (try dsimp only at hk); (split at hk) <;> first | (cases hk; done) | (injection hk with hk; subst hk; exact ⟨by intro j hkj I v w w' hR hG; first | exact hG | (obtain ⟨b, h1, h2, hI, h3⟩ := hG; exact ⟨b, h1, h2, hI, h3.fr (mS hR) (fun hs => by have := hSl _ hs; omega)⟩) | (obtain ⟨s, c, h1, h2, h3⟩ := hG; exact ⟨s, c, h1, h2.ext (mT hkj hR), h3⟩), fun ⟨_, _, _, _, hs⟩ => by (try dsimp only at hs); split at hs <;> cases hs⟩)) (by intro kS s y G hk; (try dsimp only at hk); split at hk <;> cases hk) ?_
                  simp only [List.take_succ_cons, List.take_zero, List.take_nil, List.drop_succ_cons, List.drop_zero, List.drop_nil]
                  refine mx_calm rfl (want rfl) (fun u29 eu29 fu29 => rn_fieldAddr fa_24_0 rfl) ?_
                  refine mx_calm rfl (want rfl) (fun u30 eu30 fu30 => rn_load1Blk ag_22 rfl (Bs12.fr (mD (by decide) eu30) (fun h => nb1 _ (.inr ⟨_, _, he, .inr h⟩) rfl)) rfl) ?_
                  refine mx_calm rfl (want rfl) (fun u31 eu31 fu31 => rn_fieldAddr fa_36_1 rfl) ?_
                  refine mx_calm rfl (want rfl) (fun u32 eu32 fu32 => rn_load1Blk ag_3 rfl ((((((((((B2.ext Eb3).ext Eb4).ext Eb5).ext E6).ext E7).ext E9).ext E10).ext Eb6).ne Es12 (by omega)).fr (mD (by decide) eu32) (fun h => tn2_2 _ (.inr ⟨_, _, he, .inr h⟩) rfl)) rfl) ?_
                  refine mx_calm rfl (want rfl) (fun u33 eu33 fu33 => rn_fieldAddr fa_24_0 rfl) ?_
                  refine mx_calm rfl (want rfl) (fun u34 eu34 fu34 => rn_load1Blk ag_22 rfl (Bs12.fr (mD (by decide) eu34) (fun h => nb1 _ (.inr ⟨_, _, he, .inr h⟩) rfl)) rfl) ?_
                  refine mx_calm rfl (want rfl) (fun u35 eu35 fu35 => rn_fieldAddr fa_36_1 rfl) ?_
                  refine mx_calm rfl (want rfl) (fun u36 eu36 fu36 => rn_load1Blk ag_3 rfl ((((((((((B2.ext Eb3).ext Eb4).ext Eb5).ext E6).ext E7).ext E9).ext E10).ext Eb6).ne Es12 (by omega)).fr (mD (by decide) eu36) (fun h => tn2_2 _ (.inr ⟨_, _, he, .inr h⟩) rfl)) rfl) ?_
                  refine mx_calm rfl (want rfl) (fun u37 eu37 fu37 => rn_index (num s2) Tryz.underlying22 sz_65 rfl rfl (by unfold num; omega) hlt) ?_
                  refine mx_calm rfl (want rfl) (fun u38 eu38 fu38 => rn_fieldAddr fa_65_1 rfl) ?_
                  refine mx_calm rfl (want rfl) (fun u39 eu39 fu39 => rn_load1 ag_63 rfl ((mD (by decide) eu39).cell (fun h => hTo.sep _ _ he _ (.inr h) ⟨_, _, rfl⟩) hcB)) ?_
                  refine mx_calm rfl (want rfl) (fun u40 eu40 fu40 => rn_fieldAddr fa_36_1 rfl) ?_
                  refine mx_calm rfl (want rfl) (fun u41 eu41 fu41 => rn_load1Blk ag_3 rfl (((((((((B3.ext Eb4).ext Eb5).ext E6).ext E7).ext E9).ext E10).ext Eb6).ne Es12 (by omega)).fr (mD (by decide) eu41) (fun h => tn2_3 _ (.inr ⟨_, _, he, .inr h⟩) rfl)) rfl) ?_
                  refine mx_calm rfl (want rfl) (fun u42 eu42 fu42 => mv_int rfl) ?_
                  refine mx_calm rfl (want rfl) (fun u43 eu43 fu43 => rn_build2 (t_int rfl) (t_int rfl) (fun w => bd_115_0_1 _ _ w)) ?_
                  refine mx_any rfl rfl (want rfl) (fun u44 eu44 fu44 => (do_newS2 (rn_bslice (xs := [.tmp 87]) Tryz.underlying63 sz_115 ze_115 rfl (argsC (t_agg rfl) args0) (CL.cons rfl rfl CL.nil) rfl (Nat.le_of_ble_eq_true rfl)) (show _ ≤ _ from ((mD (by decide) eu44)).size)).mono (fun v w' h => ⟨(mE (by decide) h.1), h.2⟩)) (fun I88 v88 => ?_)
                  refine mx_any rfl rfl (want rfl) (fun u45 eu45 fu45 => by obtain ⟨bS, rfl, hbS, _, hBS⟩ := fu45 88 _ rfl (show (88 : Nat) ∈ _ from by decide); exact do_append 16 Tryz.underlying63 ti_115 (by decide) rfl (by decide) rfl rfl (hOw.ext (mC eu45)) (Src.blk hBS rfl rfl) (show x.2.length + 1 ≤ 1073741824 by omega) (fun sA cA wA AP => ⟨(mF AP.fr), ⟨sA, cA, by simp, by have h := AP.own; rw [List.length_append, List.flatMap_append]; exact h, fun k hk => (AP.blk k hk).elim .inl (fun h => .inr (Nat.le_trans (mC eu45).size h))⟩⟩)) (fun I89 v89 => ?_)
                  refine mx_nil (fun w12 E11' H8 HS => ?_)
                  have E11 := mG E11'
                  have F29 := F28.new E11 (fun k h => tg2 k (.inr ⟨_, _, he, .inr h⟩))
                  have hz11 := E11.size
                  have hI89 := (HS.1 89 _ rfl).2
                  have hI88 := (HS.1 88 _ rfl).2
                  have hX89_88 := HS.2 89 _ 88 _ rfl rfl (show (89 : Nat) ≠ 88 from by decide)
                  simp only at hI89
                  simp only at hI88
                  simp only at hX89_88
                  have g89 := H8 89 _ rfl
                  obtain ⟨sq1, cq1, rfl, hO1, hI1⟩ := g89
                  have g88 := H8 88 _ rfl
                  refine lx_value (want rfl) (rn_index (num s2) Tryz.underlying22 sz_65 rfl rfl (by unfold num; omega) hlt) ?_
                  refine lx_value (want rfl) (rn_fieldAddr fa_65_1 rfl) ?_
                  refine lx_owncell (j := (num s2) * 2 + 1) (want rfl) sz_63 rfl (t_slice rfl) rfl rfl rfl (hTo.out.fr E11 (fun k h1 h2 => hTo.sep _ _ he k (.inr h2) h1)) (by have := (List.getElem?_eq_some_iff.1 he).1; omega) ?_
                  intro w13 E12' HO2
                  have E12 : Fr (ob (some (⟨bT, oT, none⟩ : Addr))) _ _ := E12'.mono (fun i _ hi => ⟨_, _, by subst hi; rfl⟩)
                  have F30 := F29.new E12 (fun k h => tg2 k (.inl h))
                  have hz12 := E12.size
                  obtain ⟨tw2, ti2'⟩ := MTab.set (e' := ((sA, cA, x.1), (sq1, cq1, x.2 ++ [(ix.2, rd)]))) hTo he (E11.mono (fun k _ h => .inr h)) ((hTo.ownA _ _ he).fr E11 (fun k h1 h2 => hTo.sepAB _ _ he k h1 h2)) hO1 (fun k h1 h2 => (hI1 k h2).elim (fun h => hTo.sepAB _ _ he k h1 h) (fun h => by have := (hTo.ownA _ _ he).lt h1; omega)) (fun k h => h.elim (fun h => .inl (.inl h)) (fun h => (hI1 k h).elim (fun h => .inl (.inr h)) (fun h => .inr (fun hm => by have := hTo.lt hm; omega)))) E12 (by rw [← flat_setB he]; exact HO2)
                  have ti2 := fun (k : Nat) hk => (ti2' k hk).elim Or.inl (fun h => h.elim (fun h => Or.inl (Or.inr ⟨_, _, he, .inl h⟩)) (fun h => (hI1 k h).elim (fun h => Or.inl (Or.inr ⟨_, _, he, .inr h⟩)) Or.inr))
                  have tg3 : ∀ k, mtb (some (⟨bT, oT, none⟩ : Addr)) (TC.set (num s2) ((sA, cA, x.1), (sq1, cq1, x.2 ++ [(ix.2, rd)]))) k → w0.heap.size ≤ k := fun k hk => (ti2 k hk).elim (tg2 k) (fun h => by omega)
                  have tn3_1 : ∀ k, mtb (some (⟨bT, oT, none⟩ : Addr)) (TC.set (num s2) ((sA, cA, x.1), (sq1, cq1, x.2 ++ [(ix.2, rd)]))) k → k ≠ b1 := fun k hk => (ti2 k hk).elim (tn2_1 k) (fun h => by have := (B1).lt; omega)
                  have tn3_2 : ∀ k, mtb (some (⟨bT, oT, none⟩ : Addr)) (TC.set (num s2) ((sA, cA, x.1), (sq1, cq1, x.2 ++ [(ix.2, rd)]))) k → k ≠ b2 := fun k hk => (ti2 k hk).elim (tn2_2 k) (fun h => by have := (B2).lt; omega)
                  have tn3_3 : ∀ k, mtb (some (⟨bT, oT, none⟩ : Addr)) (TC.set (num s2) ((sA, cA, x.1), (sq1, cq1, x.2 ++ [(ix.2, rd)]))) k → k ≠ b3 := fun k hk => (ti2 k hk).elim (tn2_3 k) (fun h => by have := (B3).lt; omega)
                  have tn3_4 : ∀ k, mtb (some (⟨bT, oT, none⟩ : Addr)) (TC.set (num s2) ((sA, cA, x.1), (sq1, cq1, x.2 ++ [(ix.2, rd)]))) k → k ≠ b4 := fun k hk => (ti2 k hk).elim (tn2_4 k) (fun h => by have := (B4).lt; omega)
                  have tn3_5 : ∀ k, mtb (some (⟨bT, oT, none⟩ : Addr)) (TC.set (num s2) ((sA, cA, x.1), (sq1, cq1, x.2 ++ [(ix.2, rd)]))) k → k ≠ b5 := fun k hk => (ti2 k hk).elim (tn2_5 k) (fun h => by have := (B5).lt; omega)
                  have tn3_1011 : ∀ k, mtb (some (⟨bT, oT, none⟩ : Addr)) (TC.set (num s2) ((sA, cA, x.1), (sq1, cq1, x.2 ++ [(ix.2, rd)]))) k → k ≠ I11.1 := fun k hk => (ti2 k hk).elim (tn2_1011 k) (fun h => by have := (hB11).lt; omega)
                  have tn3_6 : ∀ k, mtb (some (⟨bT, oT, none⟩ : Addr)) (TC.set (num s2) ((sA, cA, x.1), (sq1, cq1, x.2 ++ [(ix.2, rd)]))) k → k ≠ b6 := fun k hk => (ti2 k hk).elim (nb1 k) (fun h => by have := (Bs12).lt; omega)
                  refine lx_nil ?_
                  refine wk_seq ?_
                  refine wk_region ?_
                  refine lx_value (want rfl) (rn_loadBlk ag_24 sz_24 rfl ((Bs12.fr E11 (fun h => nb1 _ (.inr ⟨_, _, he, .inr h⟩) rfl)).fr E12 (fun h => nb1 _ (.inl h) rfl)) rfl rfl) ?_
                  refine lx_value (want rfl) (rn_build0  (fun w => bd_36  w)) ?_
                  refine lx_set (want rfl) sz_24 rfl (t_agg rfl) rfl rfl rfl (((((((((B4.ext Eb5).ext E6).ext E7).ext E9).ext E10).ext Eb6).ne Es12 (by omega)).fr E11 (fun h => tn2_4 _ (.inr ⟨_, _, he, .inr h⟩) rfl)).fr E12 (fun h => tn2_4 _ (.inl h) rfl)) (Nat.le_of_ble_eq_true rfl) ?_
                  intro w14 Es13 Bs13
                  have F31 := F30.set Es13 (by omega)
                  have hzs13 := Es13.size
                  refine lx_set (want rfl) sz_36 rfl (t_agg rfl) rfl rfl rfl (((((((((B5.ext E6).ext E7).ext E9).ext E10).ext Eb6).ne Es12 (by omega)).fr E11 (fun h => tn2_5 _ (.inr ⟨_, _, he, .inr h⟩) rfl)).fr E12 (fun h => tn2_5 _ (.inl h) rfl)).ne Es13 (by omega)) (Nat.le_of_ble_eq_true rfl) ?_
                  intro w15 Es14 Bs14
                  have F32 := F31.set Es14 (by omega)
                  have hzs14 := Es14.size
                  refine lx_value (want rfl) (as_int rfl) ?_
                  refine lx_nil ?_
                  refine wk_ret ?_
                  refine retR3 Tryz.results90 (.cell rfl (run_loadVar_blk ag_24 sz_24 (Bs13.ne Es14 (by omega)) rfl rfl)) (.cell rfl (run_loadVar_blk ag_36 sz_36 Bs14 rfl rfl)) (.tmp (t_int rfl)) F32 ?_
                  exact rd_new hf hsx hu h0 hw (memO_new ((tw2.fr Es13 (fun k hk h => tn3_4 k hk h)).fr Es14 (fun k hk h => tn3_5 k hk h)) (mtab_set hTC rfl) (by rw [List.length_set]) tg3)
            ·
              refine lx_value (want rfl) (rn_not rfl) ?_
              refine lx_value (want rfl) (as_bool rfl) ?_
              refine lx_nil ?_
              refine wk_cond_t rfl ?_
              refine wk_seq ?_
              refine wk_mix 2 (fun kS => match kS with | 1 => .val (.agg #[.int .u8 5, .int .i64 3]) | _ => .none) (by kernel_rfl) (by kernel_rfl) (by intro kS G hk; (try dsimp only at hk); (split at hk) <;> first | (cases hk; done) | (injection hk with hk; subst hk; exact ⟨by intro j hkj I v w w' hR hG; first | exact hG, fun ⟨_, _, _, _, hs⟩ => by (try dsimp only at hs); split at hs <;> cases hs⟩)) (by intro kS s y G hk; (try dsimp only at hk); split at hk <;> cases hk) ?_
              simp only [List.take_succ_cons, List.take_zero, List.take_nil, List.drop_succ_cons, List.drop_zero, List.drop_nil]
              refine mx_calm rfl (want rfl) (fun u46 eu46 fu46 => rn_loadBlk ag_24 sz_24 rfl ((((((B1.ext Eb2).ext Eb3).ext Eb4).ext Eb5).ext E6).ext ((ext_drawn _).trans' eu46)) rfl rfl) ?_
              refine mx_val rfl (want rfl) (fun u47 eu47 fu47 => do_call (ent_func cf_67 (argsC (t_int rfl) args0)) (refbad_ct _ u47) (fun _ _ E h => ⟨E, h⟩)) ?_
              refine mx_nil (fun w7 E13' H9 HS => ?_)
              have E13 := (ext_drawn _).trans' E13'
              have F33 := F19.ext E13
              have hz13 := E13.size
              refine lx_set (want rfl) sz_24 rfl (t_agg rfl) rfl rfl rfl (((B4.ext Eb5).ext E6).ext E13) (Nat.le_of_ble_eq_true rfl) ?_
              intro w8 Es15 Bs15
              have F34 := F33.set Es15 (by omega)
              have hzs15 := Es15.size
              refine lx_set (want rfl) sz_36 rfl (t_agg rfl) rfl rfl rfl (((B5.ext E6).ext E13).ne Es15 (by omega)) (Nat.le_of_ble_eq_true rfl) ?_
              intro w9 Es16 Bs16
              have F35 := F34.set Es16 (by omega)
              have hzs16 := Es16.size
              refine lx_value (want rfl) (as_int rfl) ?_
              refine lx_nil ?_
              refine wk_ret ?_
              refine retR3 Tryz.results90 (.cell rfl (run_loadVar_blk ag_24 sz_24 (Bs15.ne Es16 (by omega)) rfl rfl)) (.cell rfl (run_loadVar_blk ag_36 sz_36 Bs16 rfl rfl)) (.tmp (t_int rfl)) F35 ?_
              exact rd_no h5 hi (Decidable.not_not.1 h4) (Decidable.not_not.1 h1) hf (memO_old (hm.fr (st_stab _) F35 (fun _ _ h => h)))

end Go.Proofs.YtnhgfmbmfjmonaaGreatDoor

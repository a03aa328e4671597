/- What functions compute: refdo. -/
import Derived.Test.YtnhgfmbmfjmonaaGreatDoorPlaysFacts
import Derived.Test.YtnhgfmbmfjmonaaGreatDoorPlaysPre
import Derived.Test.YtnhgfmbmfjmonaaGreatDoorPlaysWalk10
import Derived.Test.YtnhgfmbmfjmonaaGreatDoorPlaysWalk11
import Derived.Test.YtnhgfmbmfjmonaaGreatDoorPlaysWalk13
import Derived.Test.YtnhgfmbmfjmonaaGreatDoorPlaysWalk2
import Derived.Test.YtnhgfmbmfjmonaaGreatDoorPlaysWalk3
import Derived.Test.YtnhgfmbmfjmonaaGreatDoorPlaysWalk4
import Derived.Test.YtnhgfmbmfjmonaaGreatDoorPlaysWalk6
import Derived.Test.YtnhgfmbmfjmonaaGreatDoorPlaysWalk7
import Derived.Test.YtnhgfmbmfjmonaaGreatDoorPlaysWalk9
set_option maxRecDepth 100000
set_option linter.unusedVariables false
set_option linter.unusedSimpArgs false
namespace Go.Proofs.YtnhgfmbmfjmonaaGreatDoor
open Go Go.RowKit Go.Mix Go.Eng
set_option maxRecDepth 100000 in
theorem refdo_ct (m : Mem) (s : Option Addr) (c : Nat) (G : Nat → Prop) (hB : Bm m) (o : Op) (hk : 0 ≤ o.kind ∧ o.kind < 256) (w0 : World) (hm : MemS G w0 s m) :
    CT Tryz.prog 44 [.agg #[.slice s m.length c], .agg #[.int .u8 o.kind, .int .u8 o.v.1, .int .i64 o.v.2, .int .u8 o.ix.1, .int .i64 o.ix.2, .int .u8 o.val.1, .int .i64 o.val.2, .int .i64 o.rd]] w0 no (fun v w => OutD w0.heap.size w v (DoR m o)) := by
  have hBl := hB.1
  have hm0 := St_lt hm
  have F0 := Fr.refl no w0
  refine ct_body Tryz.func44 rfl Tryz.ntmps44 (Nat.le_of_ble_eq_true rfl) ?_
  refine wk_seq ?_
  refine wk_region ?_
  refine lx_new (want rfl) (rn_box (t_agg rfl)) ?_
  intro b1 w1 hb1 Eb1 B1 hlb1
  have F1 := F0.ext Eb1
  have hzb1 := Eb1.size
  refine lx_new (want rfl) (rn_box (t_agg rfl)) ?_
  intro b2 w2 hb2 Eb2 B2 hlb2
  have F2 := F1.ext Eb2
  have hzb2 := Eb2.size
  refine lx_new (want rfl) (rn_alloc ze_24) ?_
  intro b3 w3 hb3 Eb3 B3 hlb3
  have F3 := F2.ext Eb3
  have hzb3 := Eb3.size
  refine lx_new (want rfl) (rn_alloc ze_36) ?_
  intro b4 w4 hb4 Eb4 B4 hlb4
  have F4 := F3.ext Eb4
  have hzb4 := Eb4.size
  refine lx_value (want rfl) (as_slice rfl) ?_
  refine lx_value (want rfl) (as_int rfl) ?_
  refine lx_nil ?_
  refine wk_seq ?_
  refine wk_seq ?_
  refine wk_region ?_
  refine lx_value (want rfl) (rn_loadBlk ag_24 sz_24 rfl (((B1.ext Eb2).ext Eb3).ext Eb4) rfl rfl) ?_
  refine lx_call (want rfl) (ent_func cf_56 (argsC (t_agg rfl) args0)) (refcheck_ct m _ _ _ hB w4 (hm.fr (st_stab _) F4 (fun _ _ h => h))) ?_
  rintro _ w5 E1 rfl
  have F5 := F4.ext E1
  have hz1 := E1.size
  refine lx_value (want rfl) (as_int rfl) ?_
  refine lx_nil ?_
  refine wk_seq ?_
  refine wk_region ?_
  refine lx_value (want rfl) (mv_int rfl) ?_
  refine lx_value (want rfl) (rn_neq rfl rfl) ?_
  refine lx_dec (fun h16 => ?_) (fun h16 => ?_)
  ·
    refine lx_nil ?_
    refine wk_cond_t rfl ?_
    refine wk_seq ?_
    refine wk_region ?_
    refine lx_value (want rfl) (rn_build0  (fun w => bd_24  w)) ?_
    refine lx_value (want rfl) (rn_build0  (fun w => bd_36  w)) ?_
    refine lx_value (want rfl) (mv_int rfl) ?_
    refine lx_set (want rfl) sz_24 rfl (t_agg rfl) rfl rfl rfl ((B3.ext Eb4).ext E1) (Nat.le_of_ble_eq_true rfl) ?_
    intro w6 Es1 Bs1
    have F6 := F5.set Es1 (by omega)
    have hzs1 := Es1.size
    refine lx_set (want rfl) sz_36 rfl (t_agg rfl) rfl rfl rfl ((B4.ext E1).ne Es1 (by omega)) (Nat.le_of_ble_eq_true rfl) ?_
    intro w7 Es2 Bs2
    have F7 := F6.set Es2 (by omega)
    have hzs2 := Es2.size
    refine lx_value (want rfl) (as_slice rfl) ?_
    refine lx_value (want rfl) (as_int rfl) ?_
    refine lx_nil ?_
    refine wk_ret ?_
    refine retR4 Tryz.results44 (.cell rfl (run_loadVar_blk ag_24 sz_24 (Bs1.ne Es2 (by omega)) rfl rfl)) (.cell rfl (run_loadVar_blk ag_36 sz_36 Bs2 rfl rfl)) (.tmp (t_slice rfl)) (.tmp (t_int rfl)) F7 ?_
    exact outD_chk h16
  ·
    have hok := chk_0 h16
    refine lx_nil ?_
    refine wk_cond_f rfl ?_
    refine wk_skip ?_
    refine wk_seq ?_
    refine wk_seq ?_
    refine wk_region ?_
    refine lx_value (want rfl) (rn_fieldAddr fa_38_0 rfl) ?_
    refine lx_value (want rfl) (rn_load1Blk ag_5 rfl (((B2.ext Eb3).ext Eb4).ext E1) rfl) ?_
    refine lx_value (want rfl) (rn_conv Tryz.underlying5 Tryz.underlying3 rfl (wrap64_in (by omega) (by omega))) ?_
    refine lx_call (want rfl) (ent_func cf_65 (argsC (t_int rfl) (argsC (t_int rfl) (argsC (t_int rfl) args0)))) (in_ct _ _ _ w5) ?_
    rintro _ w6 E2 rfl
    have F8 := F5.ext E2
    have hz2 := E2.size
    refine lx_split (fun hin => ?_) (fun hin => ?_)
    ·
      refine lx_value (want rfl) (rn_not rfl) ?_
      refine lx_value (want rfl) (mv_bool rfl) ?_
      refine lx_value (want_if (j := 5) (d := 25) (x := false) (y := false) rfl rfl (by decide) rfl) (rn_loadBlk ag_24 sz_24 rfl (((((B1.ext Eb2).ext Eb3).ext Eb4).ext E1).ext E2) rfl rfl) ?_
      refine lx_value (want_if (j := 5) (d := 25) (x := false) (y := false) rfl rfl (by decide) rfl) (rn_fieldAddr fa_38_1 rfl) ?_
      refine lx_value (want_if (j := 5) (d := 25) (x := false) (y := false) rfl rfl (by decide) rfl) (rn_loadBlk ag_36 sz_36 rfl ((((B2.ext Eb3).ext Eb4).ext E1).ext E2) rfl rfl) ?_
      refine lx_call (want_if (j := 5) (d := 25) (x := false) (y := false) rfl rfl (by decide) rfl) (ent_func cf_87 (argsC (t_agg rfl) (argsC (t_agg rfl) args0))) (known_ct _ _ _ _ w6) ?_
      rintro _ w7 E3 rfl
      have F9 := F8.ext E3
      have hz3 := E3.size
      refine lx_split (fun hkv => ?_) (fun hkv => ?_)
      ·
        have hs := there_ref hkv
        refine lx_value (want_if (j := 5) (d := 25) (x := false) (y := false) rfl rfl (by decide) rfl) (rn_not rfl) ?_
        refine lx_value (want rfl) (pick_f rfl rfl) ?_
        refine lx_nil ?_
        refine wk_cond_f rfl ?_
        refine wk_skip ?_
        refine wk_seq ?_
        refine wk_seq ?_
        refine wk_region ?_
        refine lx_value (want rfl) (rn_fieldAddr fa_38_0 rfl) ?_
        refine lx_value (want rfl) (rn_load1Blk ag_5 rfl (((((B2.ext Eb3).ext Eb4).ext E1).ext E2).ext E3) rfl) ?_
        refine lx_value (want rfl) (rn_eql rfl rfl) ?_
        refine lx_dec (fun h2 => ?_) (fun h2 => ?_)
        ·
          refine lx_value (want rfl) (mv_bool rfl) ?_
          refine lx_skip (want_if (j := 3) (d := 37) (x := false) (y := true) rfl rfl (by decide) rfl) ?_
          refine lx_skip (want_if (j := 3) (d := 37) (x := false) (y := true) rfl rfl (by decide) rfl) ?_
          refine lx_skip (want_if (j := 3) (d := 37) (x := false) (y := true) rfl rfl (by decide) rfl) ?_
          refine lx_value (want rfl) (pick_t rfl rfl) ?_
          refine lx_value (want rfl) (mv_bool rfl) ?_
          refine lx_value (want_if (j := 8) (d := 42) (x := true) (y := true) rfl rfl (by decide) rfl) (rn_loadBlk ag_24 sz_24 rfl ((((((B1.ext Eb2).ext Eb3).ext Eb4).ext E1).ext E2).ext E3) rfl rfl) ?_
          refine lx_value (want_if (j := 8) (d := 42) (x := true) (y := true) rfl rfl (by decide) rfl) (rn_fieldAddr fa_38_2 rfl) ?_
          refine lx_value (want_if (j := 8) (d := 42) (x := true) (y := true) rfl rfl (by decide) rfl) (rn_loadBlk ag_36 sz_36 rfl (((((B2.ext Eb3).ext Eb4).ext E1).ext E2).ext E3) rfl rfl) ?_
          refine lx_call (want_if (j := 8) (d := 42) (x := true) (y := true) rfl rfl (by decide) rfl) (ent_func cf_87 (argsC (t_agg rfl) (argsC (t_agg rfl) args0))) (known_ct _ _ _ _ w7) ?_
          rintro _ w8 E4 rfl
          have F10 := F9.ext E4
          have hz4 := E4.size
          refine lx_split (fun hki => ?_) (fun hki => ?_)
          ·
            refine lx_value (want_if (j := 8) (d := 42) (x := true) (y := true) rfl rfl (by decide) rfl) (rn_not rfl) ?_
            refine lx_value (want rfl) (pick_t rfl rfl) ?_
            refine lx_value (want rfl) (mv_bool rfl) ?_
            refine lx_value (want_if (j := 15) (d := 49) (x := false) (y := false) rfl rfl (by decide) rfl) (rn_fieldAddr fa_38_0 rfl) ?_
            refine lx_value (want_if (j := 15) (d := 49) (x := false) (y := false) rfl rfl (by decide) rfl) (rn_load1Blk ag_5 rfl ((((((B2.ext Eb3).ext Eb4).ext E1).ext E2).ext E3).ext E4) rfl) ?_
            refine lx_value (want_if (j := 15) (d := 49) (x := false) (y := false) rfl rfl (by decide) rfl) (rn_eql rfl rfl) ?_
            refine lx_dec_t (h2) ?_
            refine lx_value (want_if (j := 15) (d := 49) (x := false) (y := false) rfl rfl (by decide) rfl) (mv_bool rfl) ?_
            refine lx_value (want_if (j := 19) (d := 53) (x := true) (y := true) rfl rfl (by decide) rfl) (rn_loadBlk ag_24 sz_24 rfl (((((((B1.ext Eb2).ext Eb3).ext Eb4).ext E1).ext E2).ext E3).ext E4) rfl rfl) ?_
            refine lx_value (want_if (j := 19) (d := 53) (x := true) (y := true) rfl rfl (by decide) rfl) (rn_fieldAddr fa_38_3 rfl) ?_
            refine lx_value (want_if (j := 19) (d := 53) (x := true) (y := true) rfl rfl (by decide) rfl) (rn_loadBlk ag_36 sz_36 rfl ((((((B2.ext Eb3).ext Eb4).ext E1).ext E2).ext E3).ext E4) rfl rfl) ?_
            refine lx_call (want_if (j := 19) (d := 53) (x := true) (y := true) rfl rfl (by decide) rfl) (ent_func cf_87 (argsC (t_agg rfl) (argsC (t_agg rfl) args0))) (known_ct _ _ _ _ w8) ?_
            rintro _ w9 E5 rfl
            have F11 := F10.ext E5
            have hz5 := E5.size
            refine lx_split (fun hkx => ?_) (fun hkx => ?_)
            ·
              refine lx_value (want_if (j := 19) (d := 53) (x := true) (y := true) rfl rfl (by decide) rfl) (rn_not rfl) ?_
              refine lx_value (want_if (j := 15) (d := 49) (x := false) (y := false) rfl rfl (by decide) rfl) (pick_t rfl rfl) ?_
              refine lx_value (want rfl) (pick_f rfl rfl) ?_
              refine lx_nil ?_
              refine wk_cond_f rfl ?_
              refine wk_skip ?_
              refine wk_seq ?_
              refine wk_mix 6 (fun kS => match kS with | 1 => .val (.agg #[.int .u8 3, .int .i64 0]) | 2 => .any (fun I v w => v = .pointer (some ⟨I.1, 0, none⟩) ∧ w9.heap.size ≤ I.1 ∧ I.1 < I.2 ∧ Blk w I.1 [.slice none 0 0] 24) | 3 => .any (fun I v w => v = .pointer (some ⟨I.1, 0, none⟩) ∧ w9.heap.size ≤ I.1 ∧ I.1 < I.2 ∧ Blk w I.1 [.int .u8 0, .int .i64 0] 36) | 4 => .sto 9 63 (fun J u w => J.1 < J.2 ∧ Blk w J.1 u.cells.toList 24) | 5 => .sto 10 64 (fun J u w => J.1 < J.2 ∧ Blk w J.1 u.cells.toList 36) | _ => .none) (by kernel_rfl) (by kernel_rfl) (by intro kS G hk; (try dsimp only at hk); (split at hk) <;> first | (cases hk; done) | (injection hk with hk; subst hk; exact ⟨by intro j hkj I v w w' hR hG; first | exact hG | (obtain ⟨h1, h2, hI, h3⟩ := hG; exact ⟨h1, h2, hI, h3.ext hR⟩) | (obtain ⟨h1, h2, hI, h3⟩ := hG; exact ⟨h1, h2, hI, h3.ext hR⟩), fun _ I v w w' hR hG => by first | exact hG | (obtain ⟨h1, h2, hI, h3⟩ := hG; exact ⟨h1, h2, hI, h3.fr hR (fun h => h.2 ⟨Nat.le_refl _, hI⟩)⟩) | (obtain ⟨h1, h2, hI, h3⟩ := hG; exact ⟨h1, h2, hI, h3.fr hR (fun h => h.2 ⟨Nat.le_refl _, hI⟩)⟩)⟩)) (by intro kS s y G hk; (try dsimp only at hk); (split at hk) <;> first | (cases hk; done) | (injection hk with hk1 hk2 hk3; subst hk1; subst hk2; subst hk3; exact ⟨by kernel_rfl, by intro j hkj I v w w' hR hG; exact ⟨hG.1, hG.2.ext hR⟩, fun I v w w' hR hG => ⟨hG.1, hG.2.fr hR (fun h => h.2 ⟨Nat.le_refl _, hG.1⟩)⟩⟩)) ?_
              simp only [List.take_succ_cons, List.take_zero, List.take_nil, List.drop_succ_cons, List.drop_zero, List.drop_nil]
              refine mx_calm rfl (want rfl) (fun u1 eu1 fu1 => rn_loadBlk ag_24 sz_24 rfl (((((((((B1.ext Eb2).ext Eb3).ext Eb4).ext E1).ext E2).ext E3).ext E4).ext E5).ext ((ext_drawn _).trans' eu1)) rfl rfl) ?_
              refine mx_val rfl (want rfl) (fun u2 eu2 fu2 => do_call (ent_func cf_66 args0) (nil_ct u2) (fun _ _ E h => ⟨E, h⟩)) ?_
              refine mx_any rfl rfl (want rfl) (fun u3 eu3 fu3 => (do_new3 (rn_alloc ze_24) (show _ ≤ _ from (((ext_drawn _).trans' eu3)).size)).mono (fun v w' h => ⟨h.1, h.2⟩)) (fun I9 v9 => ?_)
              refine mx_any rfl rfl (want rfl) (fun u4 eu4 fu4 => (do_new3 (rn_alloc ze_36) (show _ ≤ _ from (((ext_drawn _).trans' eu4)).size)).mono (fun v w' h => ⟨h.1, h.2⟩)) (fun I10 v10 => ?_)
              refine mx_sto rfl rfl rfl rfl (want rfl) (fun u5 eu5 fu5 _ => by obtain ⟨rfl, hl9, hi9, hB9⟩ := fu5 9 _ rfl (show (9 : Nat) ∈ _ from by decide); exact (do_sto sz_24 rfl rfl rfl rfl rfl hB9 rfl ⟨Nat.le_refl _, hi9⟩).mono (fun v w' h => ⟨h.1, h.2.1, hi9, h.2.2⟩)) ?_
              refine mx_sto rfl rfl rfl rfl (want rfl) (fun u6 eu6 fu6 _ => by obtain ⟨rfl, hl10, hi10, hB10⟩ := fu6 10 _ rfl (show (10 : Nat) ∈ _ from by decide); exact (do_sto sz_36 rfl rfl rfl rfl rfl hB10 rfl ⟨Nat.le_refl _, hi10⟩).mono (fun v w' h => ⟨h.1, h.2.1, hi10, h.2.2⟩)) ?_
              refine mx_nil (fun w10 E6' H1 HS => ?_)
              have E6 := (ext_drawn _).trans' E6'
              have F12 := F11.ext E6
              have hz6 := E6.size
              have hI10 := (HS.1 10 _ rfl).2
              have hI9 := (HS.1 9 _ rfl).2
              have hX10_9 := HS.2 10 _ 9 _ rfl rfl (show (10 : Nat) ≠ 9 from by decide)
              simp only at hI10
              simp only at hI9
              simp only at hX10_9
              have g10 := H1 10 _ rfl
              obtain ⟨⟨_, hv10, hb10, _, _⟩, hi10, hB10⟩ := g10; subst hv10; have hlb10 := hB10.lt
              have g9 := H1 9 _ rfl
              obtain ⟨⟨_, hv9, hb9, _, _⟩, hi9, hB9⟩ := g9; subst hv9; have hlb9 := hB9.lt
              refine lx_value (want rfl) (as_slice rfl) ?_
              refine lx_value (want rfl) (as_int rfl) ?_
              refine lx_nil ?_
              refine wk_seq ?_
              refine wk_seq ?_
              refine wk_region ?_
              refine lx_value (want rfl) (rn_fieldAddr fa_38_0 rfl) ?_
              refine lx_value (want rfl) (rn_load1Blk ag_5 rfl ((((((((B2.ext Eb3).ext Eb4).ext E1).ext E2).ext E3).ext E4).ext E5).ext E6) rfl) ?_
              refine lx_nil ?_
              refine wk_block ?_
              refine wk_seq ?_
              refine wk_region ?_
              refine lx_value (want rfl) (rn_eql rfl rfl) ?_
              refine lx_dec_f ((by omega)) ?_
              refine lx_value (want rfl) (as_bool rfl) ?_
              refine lx_nil ?_
              refine wk_cond_f rfl ?_
              refine wk_seq ?_
              refine wk_region ?_
              refine lx_value (want rfl) (rn_eql rfl rfl) ?_
              refine lx_dec_t (h2) ?_
              refine lx_value (want rfl) (as_bool rfl) ?_
              refine lx_nil ?_
              refine wk_cond_t rfl ?_
              refine wk_region ?_
              refine lx_value (want rfl) (rn_loadBlk ag_24 sz_24 rfl (((((((((B1.ext Eb2).ext Eb3).ext Eb4).ext E1).ext E2).ext E3).ext E4).ext E5).ext E6) rfl rfl) ?_
              refine lx_value (want rfl) (rn_fieldAddr fa_38_1 rfl) ?_
              refine lx_value (want rfl) (rn_loadBlk ag_36 sz_36 rfl ((((((((B2.ext Eb3).ext Eb4).ext E1).ext E2).ext E3).ext E4).ext E5).ext E6) rfl rfl) ?_
              refine lx_value (want rfl) (rn_fieldAddr fa_38_2 rfl) ?_
              refine lx_value (want rfl) (rn_loadBlk ag_36 sz_36 rfl ((((((((B2.ext Eb3).ext Eb4).ext E1).ext E2).ext E3).ext E4).ext E5).ext E6) rfl rfl) ?_
              refine lx_value (want rfl) (rn_fieldAddr fa_38_3 rfl) ?_
              refine lx_value (want rfl) (rn_loadBlk ag_36 sz_36 rfl ((((((((B2.ext Eb3).ext Eb4).ext E1).ext E2).ext E3).ext E4).ext E5).ext E6) rfl rfl) ?_
              have hD := do_2 (args_yes (of_decide_eq_true hin) hkv (fun _ => hki) (fun _ => hkx)) h2
              refine lx_call (want rfl) (ent_func cf_89 (argsC (t_agg rfl) (argsC (t_agg rfl) (argsC (t_agg rfl) (argsC (t_agg rfl) args0))))) (CT.mono (refwrite_ct m s c _ hB o.v o.ix hs o.val w10 (hm0.fr (st_stab _) F12 (fun _ _ h => h))) (fun _ _ h => h) (fun v w2 _ h => show OutW (fun k => G k ∧ k < w0.heap.size) w10.heap.size w2 v (doR m o) from by rw [hD]; exact h)) ?_
              rintro _ w11 E7 ⟨sR, nR, cR, stR, ctR, rfl, hRW⟩
              have F13 := F12.ext E7
              have hz7 := E7.size
              have hR := fun h => (hRW h).1
              refine lx_value (want rfl) (mv_tuple rfl) ?_
              refine lx_value (want rfl) (rn_extract rfl rfl) ?_
              refine lx_value (want rfl) (rn_extract rfl rfl) ?_
              refine lx_value (want rfl) (rn_extract rfl rfl) ?_
              refine lx_set (want rfl) sz_24 rfl (t_agg rfl) rfl rfl rfl (hB9.ext E7) (Nat.le_of_ble_eq_true rfl) ?_
              intro w12 Es3 Bs3
              have F14 := F13.set Es3 (by omega)
              have hzs3 := Es3.size
              refine lx_value (want rfl) (as_slice rfl) ?_
              refine lx_value (want rfl) (as_int rfl) ?_
              refine lx_nil ?_
              refine wk_seq ?_
              refine wk_seq ?_
              refine wk_region ?_
              refine lx_value (want rfl) (mv_int rfl) ?_
              refine lx_value (want rfl) (rn_neq rfl rfl) ?_
              refine lx_dec (fun herr => ?_) (fun herr => ?_)
              ·
                refine lx_nil ?_
                refine wk_cond_t rfl ?_
                refine wk_seq ?_
                refine wk_region ?_
                refine lx_value (want rfl) (rn_build0  (fun w => bd_24  w)) ?_
                refine lx_value (want rfl) (rn_build0  (fun w => bd_36  w)) ?_
                refine lx_value (want rfl) (mv_int rfl) ?_
                refine lx_set (want rfl) sz_24 rfl (t_agg rfl) rfl rfl rfl (((((((((B3.ext Eb4).ext E1).ext E2).ext E3).ext E4).ext E5).ext E6).ext E7).ne Es3 (by omega)) (Nat.le_of_ble_eq_true rfl) ?_
                intro w13 Es4 Bs4
                have F15 := F14.set Es4 (by omega)
                have hzs4 := Es4.size
                refine lx_set (want rfl) sz_36 rfl (t_agg rfl) rfl rfl rfl (((((((((B4.ext E1).ext E2).ext E3).ext E4).ext E5).ext E6).ext E7).ne Es3 (by omega)).ne Es4 (by omega)) (Nat.le_of_ble_eq_true rfl) ?_
                intro w14 Es5 Bs5
                have F16 := F15.set Es5 (by omega)
                have hzs5 := Es5.size
                refine lx_value (want rfl) (as_slice rfl) ?_
                refine lx_value (want rfl) (as_int rfl) ?_
                refine lx_nil ?_
                refine wk_ret ?_
                refine retR4 Tryz.results44 (.cell rfl (run_loadVar_blk ag_24 sz_24 (Bs4.ne Es5 (by omega)) rfl rfl)) (.cell rfl (run_loadVar_blk ag_36 sz_36 Bs5 rfl rfl)) (.tmp (t_slice rfl)) (.tmp (t_int rfl)) F16 ?_
                exact outD_err hok herr
              ·
                have herr0 : (doR m o).1 = 0 := Decidable.not_not.1 herr
                obtain ⟨hn, hMS⟩ := hR herr0
                subst hn
                have hB2 := okM_Bm (do_ok hok herr0).1
                refine lx_nil ?_
                refine wk_cond_f rfl ?_
                refine wk_skip ?_
                refine wk_seq ?_
                refine wk_mixK2 6 4 5 (((((((((B3.ext Eb4).ext E1).ext E2).ext E3).ext E4).ext E5).ext E6).ext E7).ne Es3 (by omega)) ((((((((B4.ext E1).ext E2).ext E3).ext E4).ext E5).ext E6).ext E7).ne Es3 (by omega)) (by decide) (by omega) (fun kS => match kS with | 1 => .any (fun I v w => ∃ (s : Option Addr) (c : Nat) (T : List (SE Vl Rd)), v = .agg #[.slice s T.length c] ∧ T.map SE.abs = (doR m o).2.1 ∧ MTab w 65 36 2 vlC 115 2 rdC s c T ∧ ∀ k, mtb s T k → w12.heap.size ≤ k ∧ I.1 ≤ k ∧ k < I.2) | 4 => .sto 4 115 (fun J u w => J.1 < J.2 ∧ Blk w J.1 u.cells.toList 24) | 5 => .sto 5 116 (fun J u w => J.1 < J.2 ∧ Blk w J.1 u.cells.toList 36) | _ => .none) (by kernel_rfl) (by kernel_rfl) (by intro kS G hk; (try dsimp only at hk); (split at hk) <;> first | (cases hk; done) | (injection hk with hk; subst hk; exact ⟨by intro j hkj I v w w' hR hG; first | exact hG | (obtain ⟨s, c, T, h1, h2, h3, h4⟩ := hG; exact ⟨s, c, T, h1, h2, h3.ext hR, h4⟩), fun _ I v w w' hR hG => by first | exact hG | (obtain ⟨s, c, T, h1, h2, h3, h4⟩ := hG; exact ⟨s, c, T, h1, h2, h3.fr hR (fun k hk h => h.2 ⟨(h4 k hk).2.1, (h4 k hk).2.2⟩), h4⟩)⟩)) (by intro kS s y G hk; (try dsimp only at hk); (split at hk) <;> first | (cases hk; done) | (injection hk with hk1 hk2 hk3; subst hk1; subst hk2; subst hk3; exact ⟨by kernel_rfl, by intro j hkj I v w w' hR hG; exact ⟨hG.1, hG.2.ext hR⟩, fun I v w w' hR hG => ⟨hG.1, hG.2.fr hR (fun h => h.2 ⟨Nat.le_refl _, hG.1⟩)⟩⟩)) ?_
                simp only [List.take_succ_cons, List.take_zero, List.take_nil, List.drop_succ_cons, List.drop_zero, List.drop_nil]
                refine mx_calm rfl (want rfl) (fun u7 eu7 fu7 => rn_loadBlk ag_24 sz_24 rfl (Bs3.fr (mG eu7) (show ¬ (I9.1 = b3 ∨ I9.1 = b4) by omega)) rfl rfl) ?_
                refine mx_any rfl rfl (want rfl) (fun u8 eu8 fu8 => do_call (ent_func cf_20 (argsC (t_agg rfl) args0)) (copy_ct (doR m o).2.1 _ _ _ hB2 u8 ((hMS.fr (st_stab _) (Fr.trans (Fr.refl (fun k => k = I9.1) w11) Es3 (fun k _ h => h)) (fun k hk h => by have hk := Or.imp And.right id hk; (try dsimp only at h); omega)).fr (st_stab _) (mG eu8) (fun k hk h => by have hk := Or.imp And.right id hk; (try dsimp only at h); omega))) (fun v w' E h => ⟨E, by obtain ⟨s, c, T, h1, h2, h3, h4⟩ := h; exact ⟨s, c, T, h1, h2, h3, fun k hk => ⟨Nat.le_trans (mG eu8).size (h4 k hk), h4 k hk, h3.lt hk⟩⟩⟩)) (fun I115 v115 => ?_)
                refine mx_calm rfl (want rfl) (fun u9 eu9 fu9 => rn_loadBlk ag_36 sz_36 rfl (((hB10.ext E7).ne Es3 (by omega)).fr (mG eu9) (show ¬ (I10.1 = b3 ∨ I10.1 = b4) by omega)) rfl rfl) ?_
                refine mx_calm rfl (want rfl) (fun u10 eu10 fu10 => mv_slice rfl) ?_
                refine mx_sto rfl rfl rfl rfl (want rfl) (fun u11 eu11 fu11 _ => by obtain hB4 := fu11 4 _ rfl (show (4 : Nat) ∈ _ from by decide); obtain ⟨s2, c2, T2, rfl, _, _, _⟩ := fu11 115 _ rfl (show (115 : Nat) ∈ _ from by decide); exact (do_sto sz_24 rfl rfl rfl rfl rfl hB4 rfl ⟨Nat.le_refl _, (Nat.lt_succ_self _)⟩).mono (fun v w' h => ⟨h.1, h.2.1, (Nat.lt_succ_self _), h.2.2⟩)) ?_
                refine mx_sto rfl rfl rfl rfl (want rfl) (fun u12 eu12 fu12 _ => by obtain hB5 := fu12 5 _ rfl (show (5 : Nat) ∈ _ from by decide); exact (do_sto sz_36 rfl rfl rfl rfl rfl hB5 rfl ⟨Nat.le_refl _, (Nat.lt_succ_self _)⟩).mono (fun v w' h => ⟨h.1, h.2.1, (Nat.lt_succ_self _), h.2.2⟩)) ?_
                refine mx_nil (fun w13 E8' H2 HS => ?_)
                have E8 := mG E8'
                have F17 := F14.new E8 (fun k h => by have h : k = b3 ∨ k = b4 := h; omega)
                have hz8 := E8.size
                obtain ⟨_, _, hBK13_3⟩ := H2 4 _ rfl
                obtain ⟨_, _, hBK13_4⟩ := H2 5 _ rfl
                have hI115 := (HS.1 115 _ rfl).2
                simp only at hI115
                have g115 := H2 115 _ rfl
                obtain ⟨sC, cC, TC, rfl, hTC, hTabC, hgC1⟩ := g115
                have hgC := fun k hk => (hgC1 k hk).1
                have tg2 : ∀ k, mtb sC TC k → w0.heap.size ≤ k := fun k hk => ((mtb_inr hgC) k hk).elim ((fun _ h => mtb_nil h) k) (fun h => by omega)
                have tn2_1 : ∀ k, mtb sC TC k → k ≠ b1 := fun k hk => ((mtb_inr hgC) k hk).elim ((fun _ h => mtb_nil h) k) (fun h => by have := (B1).lt; omega)
                have tn2_2 : ∀ k, mtb sC TC k → k ≠ b2 := fun k hk => ((mtb_inr hgC) k hk).elim ((fun _ h => mtb_nil h) k) (fun h => by have := (B2).lt; omega)
                have tn2_3 : ∀ k, mtb sC TC k → k ≠ b3 := fun k hk => ((mtb_inr hgC) k hk).elim ((fun _ h => mtb_nil h) k) (fun h => by have := (hBK13_3).lt; omega)
                have tn2_4 : ∀ k, mtb sC TC k → k ≠ b4 := fun k hk => ((mtb_inr hgC) k hk).elim ((fun _ h => mtb_nil h) k) (fun h => by have := (hBK13_4).lt; omega)
                have tn2_1010 : ∀ k, mtb sC TC k → k ≠ I10.1 := fun k hk => ((mtb_inr hgC) k hk).elim ((fun _ h => mtb_nil h) k) (fun h => by have := (hB10).lt; omega)
                have tn2_1009 : ∀ k, mtb sC TC k → k ≠ I9.1 := fun k hk => ((mtb_inr hgC) k hk).elim ((fun _ h => mtb_nil h) k) (fun h => by have := (Bs3).lt; omega)
                refine lx_value (want rfl) (as_slice rfl) ?_
                refine lx_value (want rfl) (as_int rfl) ?_
                refine lx_nil ?_
                refine wk_ret ?_
                refine retR4 Tryz.results44 (.cell rfl (run_loadVar_blk ag_24 sz_24 hBK13_3 rfl rfl)) (.cell rfl (run_loadVar_blk ag_36 sz_36 hBK13_4 rfl rfl)) (.tmp (t_slice rfl)) (.tmp (t_int rfl)) F17 ?_
                exact outD_ok hok herr0 hTC hTabC hgC (by omega) (by rw [hD, write_gives _ _ _ (by rw [← hD]; exact herr0)]; rfl) rfl (((hRW herr0).2.fr (tl_stab _) (Fr.trans (Fr.trans (Fr.refl (fun k => k = I9.1 ∨ (fun x => x = b3 ∨ x = b4) k) w11) Es3 (fun k _ h => (.inl h))) E8 (fun k _ h => (.inr h))) (fun k hk h => by have hk : _ ≤ k ∧ k < _ := hk; (try dsimp only at h); omega)).wide (fun k hk => ⟨by have := hk.1; omega, by have := hk.2; omega⟩))
            ·
              refine lx_value (want_if (j := 19) (d := 53) (x := true) (y := true) rfl rfl (by decide) rfl) (rn_not rfl) ?_
              refine lx_value (want_if (j := 15) (d := 49) (x := false) (y := false) rfl rfl (by decide) rfl) (pick_t rfl rfl) ?_
              refine lx_value (want rfl) (pick_f rfl rfl) ?_
              refine lx_nil ?_
              refine wk_cond_t rfl ?_
              refine wk_seq ?_
              refine wk_region ?_
              refine lx_value (want rfl) (rn_build0  (fun w => bd_24  w)) ?_
              refine lx_value (want rfl) (rn_build0  (fun w => bd_36  w)) ?_
              refine lx_set (want rfl) sz_24 rfl (t_agg rfl) rfl rfl rfl ((((((B3.ext Eb4).ext E1).ext E2).ext E3).ext E4).ext E5) (Nat.le_of_ble_eq_true rfl) ?_
              intro w10 Es6 Bs6
              have F18 := F11.set Es6 (by omega)
              have hzs6 := Es6.size
              refine lx_set (want rfl) sz_36 rfl (t_agg rfl) rfl rfl rfl ((((((B4.ext E1).ext E2).ext E3).ext E4).ext E5).ne Es6 (by omega)) (Nat.le_of_ble_eq_true rfl) ?_
              intro w11 Es7 Bs7
              have F19 := F18.set Es7 (by omega)
              have hzs7 := Es7.size
              refine lx_value (want rfl) (as_slice rfl) ?_
              refine lx_value (want rfl) (as_int rfl) ?_
              refine lx_nil ?_
              refine wk_ret ?_
              refine retR4 Tryz.results44 (.cell rfl (run_loadVar_blk ag_24 sz_24 (Bs6.ne Es7 (by omega)) rfl rfl)) (.cell rfl (run_loadVar_blk ag_36 sz_36 Bs7 rfl rfl)) (.tmp (t_slice rfl)) (.tmp (t_int rfl)) F19 ?_
              exact outD_args hok (args_val h2 hkx)
          ·
            refine lx_value (want_if (j := 8) (d := 42) (x := true) (y := true) rfl rfl (by decide) rfl) (rn_not rfl) ?_
            refine lx_value (want rfl) (pick_t rfl rfl) ?_
            refine lx_value (want rfl) (mv_bool rfl) ?_
            refine lx_skip (want_if (j := 15) (d := 49) (x := false) (y := true) rfl rfl (by decide) rfl) ?_
            refine lx_skip (want_if (j := 15) (d := 49) (x := false) (y := true) rfl rfl (by decide) rfl) ?_
            refine lx_skip (want_if (j := 15) (d := 49) (x := false) (y := true) rfl rfl (by decide) rfl) ?_
            refine lx_skip (want_if (j := 15) (d := 49) (x := false) (y := true) rfl rfl (by decide) rfl) ?_
            refine lx_skip (want_un (j := 19) (d := 53) (x := true) rfl rfl (by decide) rfl) ?_
            refine lx_skip (want_un (j := 19) (d := 53) (x := true) rfl rfl (by decide) rfl) ?_
            refine lx_skip (want_un (j := 19) (d := 53) (x := true) rfl rfl (by decide) rfl) ?_
            refine lx_skip (want_un (j := 19) (d := 53) (x := true) rfl rfl (by decide) rfl) ?_
            refine lx_skip (want_un (j := 19) (d := 53) (x := true) rfl rfl (by decide) rfl) ?_
            refine lx_skip (want_if (j := 15) (d := 49) (x := false) (y := true) rfl rfl (by decide) rfl) ?_
            refine lx_value (want rfl) (pick_t rfl rfl) ?_
            refine lx_nil ?_
            refine wk_cond_t rfl ?_
            refine wk_seq ?_
            refine wk_region ?_
            refine lx_value (want rfl) (rn_build0  (fun w => bd_24  w)) ?_
            refine lx_value (want rfl) (rn_build0  (fun w => bd_36  w)) ?_
            refine lx_set (want rfl) sz_24 rfl (t_agg rfl) rfl rfl rfl (((((B3.ext Eb4).ext E1).ext E2).ext E3).ext E4) (Nat.le_of_ble_eq_true rfl) ?_
            intro w9 Es8 Bs8
            have F20 := F10.set Es8 (by omega)
            have hzs8 := Es8.size
            refine lx_set (want rfl) sz_36 rfl (t_agg rfl) rfl rfl rfl (((((B4.ext E1).ext E2).ext E3).ext E4).ne Es8 (by omega)) (Nat.le_of_ble_eq_true rfl) ?_
            intro w10 Es9 Bs9
            have F21 := F20.set Es9 (by omega)
            have hzs9 := Es9.size
            refine lx_value (want rfl) (as_slice rfl) ?_
            refine lx_value (want rfl) (as_int rfl) ?_
            refine lx_nil ?_
            refine wk_ret ?_
            refine retR4 Tryz.results44 (.cell rfl (run_loadVar_blk ag_24 sz_24 (Bs8.ne Es9 (by omega)) rfl rfl)) (.cell rfl (run_loadVar_blk ag_36 sz_36 Bs9 rfl rfl)) (.tmp (t_slice rfl)) (.tmp (t_int rfl)) F21 ?_
            exact outD_args hok (args_ix (.inl h2) hki)
        ·
          refine lx_value (want rfl) (mv_bool rfl) ?_
          refine lx_value (want_if (j := 3) (d := 37) (x := false) (y := false) rfl rfl (by decide) rfl) (rn_fieldAddr fa_38_0 rfl) ?_
          refine lx_value (want_if (j := 3) (d := 37) (x := false) (y := false) rfl rfl (by decide) rfl) (rn_load1Blk ag_5 rfl (((((B2.ext Eb3).ext Eb4).ext E1).ext E2).ext E3) rfl) ?_
          refine lx_value (want_if (j := 3) (d := 37) (x := false) (y := false) rfl rfl (by decide) rfl) (rn_eql rfl rfl) ?_
          refine lx_dec (fun h3 => ?_) (fun h3 => ?_)
          ·
            refine lx_value (want rfl) (pick_f rfl rfl) ?_
            refine lx_value (want rfl) (mv_bool rfl) ?_
            refine lx_value (want_if (j := 8) (d := 42) (x := true) (y := true) rfl rfl (by decide) rfl) (rn_loadBlk ag_24 sz_24 rfl ((((((B1.ext Eb2).ext Eb3).ext Eb4).ext E1).ext E2).ext E3) rfl rfl) ?_
            refine lx_value (want_if (j := 8) (d := 42) (x := true) (y := true) rfl rfl (by decide) rfl) (rn_fieldAddr fa_38_2 rfl) ?_
            refine lx_value (want_if (j := 8) (d := 42) (x := true) (y := true) rfl rfl (by decide) rfl) (rn_loadBlk ag_36 sz_36 rfl (((((B2.ext Eb3).ext Eb4).ext E1).ext E2).ext E3) rfl rfl) ?_
            refine lx_call (want_if (j := 8) (d := 42) (x := true) (y := true) rfl rfl (by decide) rfl) (ent_func cf_87 (argsC (t_agg rfl) (argsC (t_agg rfl) args0))) (known_ct _ _ _ _ w7) ?_
            rintro _ w8 E9 rfl
            have F22 := F9.ext E9
            have hz9 := E9.size
            refine lx_split (fun hki => ?_) (fun hki => ?_)
            ·
              refine lx_value (want_if (j := 8) (d := 42) (x := true) (y := true) rfl rfl (by decide) rfl) (rn_not rfl) ?_
              refine lx_value (want rfl) (pick_t rfl rfl) ?_
              refine lx_value (want rfl) (mv_bool rfl) ?_
              refine lx_value (want_if (j := 15) (d := 49) (x := false) (y := false) rfl rfl (by decide) rfl) (rn_fieldAddr fa_38_0 rfl) ?_
              refine lx_value (want_if (j := 15) (d := 49) (x := false) (y := false) rfl rfl (by decide) rfl) (rn_load1Blk ag_5 rfl ((((((B2.ext Eb3).ext Eb4).ext E1).ext E2).ext E3).ext E9) rfl) ?_
              refine lx_value (want_if (j := 15) (d := 49) (x := false) (y := false) rfl rfl (by decide) rfl) (rn_eql rfl rfl) ?_
              refine lx_dec_f (h2) ?_
              refine lx_value (want_if (j := 15) (d := 49) (x := false) (y := false) rfl rfl (by decide) rfl) (mv_bool rfl) ?_
              refine lx_skip (want_if (j := 19) (d := 53) (x := true) (y := false) rfl rfl (by decide) rfl) ?_
              refine lx_skip (want_if (j := 19) (d := 53) (x := true) (y := false) rfl rfl (by decide) rfl) ?_
              refine lx_skip (want_if (j := 19) (d := 53) (x := true) (y := false) rfl rfl (by decide) rfl) ?_
              refine lx_skip (want_if (j := 19) (d := 53) (x := true) (y := false) rfl rfl (by decide) rfl) ?_
              refine lx_skip (want_if (j := 19) (d := 53) (x := true) (y := false) rfl rfl (by decide) rfl) ?_
              refine lx_value (want_if (j := 15) (d := 49) (x := false) (y := false) rfl rfl (by decide) rfl) (pick_f rfl rfl) ?_
              refine lx_value (want rfl) (pick_f rfl rfl) ?_
              refine lx_nil ?_
              refine wk_cond_f rfl ?_
              refine wk_skip ?_
              refine wk_seq ?_
              refine wk_mix 6 (fun kS => match kS with | 1 => .val (.agg #[.int .u8 3, .int .i64 0]) | 2 => .any (fun I v w => v = .pointer (some ⟨I.1, 0, none⟩) ∧ w8.heap.size ≤ I.1 ∧ I.1 < I.2 ∧ Blk w I.1 [.slice none 0 0] 24) | 3 => .any (fun I v w => v = .pointer (some ⟨I.1, 0, none⟩) ∧ w8.heap.size ≤ I.1 ∧ I.1 < I.2 ∧ Blk w I.1 [.int .u8 0, .int .i64 0] 36) | 4 => .sto 9 63 (fun J u w => J.1 < J.2 ∧ Blk w J.1 u.cells.toList 24) | 5 => .sto 10 64 (fun J u w => J.1 < J.2 ∧ Blk w J.1 u.cells.toList 36) | _ => .none) (by kernel_rfl) (by kernel_rfl) (by intro kS G hk; (try dsimp only at hk); (split at hk) <;> first | (cases hk; done) | (injection hk with hk; subst hk; exact ⟨by intro j hkj I v w w' hR hG; first | exact hG | (obtain ⟨h1, h2, hI, h3⟩ := hG; exact ⟨h1, h2, hI, h3.ext hR⟩) | (obtain ⟨h1, h2, hI, h3⟩ := hG; exact ⟨h1, h2, hI, h3.ext hR⟩), fun _ I v w w' hR hG => by first | exact hG | (obtain ⟨h1, h2, hI, h3⟩ := hG; exact ⟨h1, h2, hI, h3.fr hR (fun h => h.2 ⟨Nat.le_refl _, hI⟩)⟩) | (obtain ⟨h1, h2, hI, h3⟩ := hG; exact ⟨h1, h2, hI, h3.fr hR (fun h => h.2 ⟨Nat.le_refl _, hI⟩)⟩)⟩)) (by intro kS s y G hk; (try dsimp only at hk); (split at hk) <;> first | (cases hk; done) | (injection hk with hk1 hk2 hk3; subst hk1; subst hk2; subst hk3; exact ⟨by kernel_rfl, by intro j hkj I v w w' hR hG; exact ⟨hG.1, hG.2.ext hR⟩, fun I v w w' hR hG => ⟨hG.1, hG.2.fr hR (fun h => h.2 ⟨Nat.le_refl _, hG.1⟩)⟩⟩)) ?_
              simp only [List.take_succ_cons, List.take_zero, List.take_nil, List.drop_succ_cons, List.drop_zero, List.drop_nil]
              refine mx_calm rfl (want rfl) (fun u13 eu13 fu13 => rn_loadBlk ag_24 sz_24 rfl ((((((((B1.ext Eb2).ext Eb3).ext Eb4).ext E1).ext E2).ext E3).ext E9).ext ((ext_drawn _).trans' eu13)) rfl rfl) ?_
              refine mx_val rfl (want rfl) (fun u14 eu14 fu14 => do_call (ent_func cf_66 args0) (nil_ct u14) (fun _ _ E h => ⟨E, h⟩)) ?_
              refine mx_any rfl rfl (want rfl) (fun u15 eu15 fu15 => (do_new3 (rn_alloc ze_24) (show _ ≤ _ from (((ext_drawn _).trans' eu15)).size)).mono (fun v w' h => ⟨h.1, h.2⟩)) (fun I9 v9 => ?_)
              refine mx_any rfl rfl (want rfl) (fun u16 eu16 fu16 => (do_new3 (rn_alloc ze_36) (show _ ≤ _ from (((ext_drawn _).trans' eu16)).size)).mono (fun v w' h => ⟨h.1, h.2⟩)) (fun I10 v10 => ?_)
              refine mx_sto rfl rfl rfl rfl (want rfl) (fun u17 eu17 fu17 _ => by obtain ⟨rfl, hl9, hi9, hB9⟩ := fu17 9 _ rfl (show (9 : Nat) ∈ _ from by decide); exact (do_sto sz_24 rfl rfl rfl rfl rfl hB9 rfl ⟨Nat.le_refl _, hi9⟩).mono (fun v w' h => ⟨h.1, h.2.1, hi9, h.2.2⟩)) ?_
              refine mx_sto rfl rfl rfl rfl (want rfl) (fun u18 eu18 fu18 _ => by obtain ⟨rfl, hl10, hi10, hB10⟩ := fu18 10 _ rfl (show (10 : Nat) ∈ _ from by decide); exact (do_sto sz_36 rfl rfl rfl rfl rfl hB10 rfl ⟨Nat.le_refl _, hi10⟩).mono (fun v w' h => ⟨h.1, h.2.1, hi10, h.2.2⟩)) ?_
              refine mx_nil (fun w9 E10' H3 HS => ?_)
              have E10 := (ext_drawn _).trans' E10'
              have F23 := F22.ext E10
              have hz10 := E10.size
              have hI10 := (HS.1 10 _ rfl).2
              have hI9 := (HS.1 9 _ rfl).2
              have hX10_9 := HS.2 10 _ 9 _ rfl rfl (show (10 : Nat) ≠ 9 from by decide)
              simp only at hI10
              simp only at hI9
              simp only at hX10_9
              have g10 := H3 10 _ rfl
              obtain ⟨⟨_, hv10, hb10, _, _⟩, hi10, hB10⟩ := g10; subst hv10; have hlb10 := hB10.lt
              have g9 := H3 9 _ rfl
              obtain ⟨⟨_, hv9, hb9, _, _⟩, hi9, hB9⟩ := g9; subst hv9; have hlb9 := hB9.lt
              refine lx_value (want rfl) (as_slice rfl) ?_
              refine lx_value (want rfl) (as_int rfl) ?_
              refine lx_nil ?_
              refine wk_seq ?_
              refine wk_seq ?_
              refine wk_region ?_
              refine lx_value (want rfl) (rn_fieldAddr fa_38_0 rfl) ?_
              refine lx_value (want rfl) (rn_load1Blk ag_5 rfl (((((((B2.ext Eb3).ext Eb4).ext E1).ext E2).ext E3).ext E9).ext E10) rfl) ?_
              refine lx_nil ?_
              refine wk_block ?_
              refine wk_seq ?_
              refine wk_region ?_
              refine lx_value (want rfl) (rn_eql rfl rfl) ?_
              refine lx_dec_f ((by omega)) ?_
              refine lx_value (want rfl) (as_bool rfl) ?_
              refine lx_nil ?_
              refine wk_cond_f rfl ?_
              refine wk_seq ?_
              refine wk_region ?_
              refine lx_value (want rfl) (rn_eql rfl rfl) ?_
              refine lx_dec_f (h2) ?_
              refine lx_value (want rfl) (as_bool rfl) ?_
              refine lx_nil ?_
              refine wk_cond_f rfl ?_
              refine wk_seq ?_
              refine wk_region ?_
              refine lx_value (want rfl) (rn_eql rfl rfl) ?_
              refine lx_dec_t (h3) ?_
              refine lx_value (want rfl) (as_bool rfl) ?_
              refine lx_nil ?_
              refine wk_cond_t rfl ?_
              refine wk_region ?_
              refine lx_value (want rfl) (rn_loadBlk ag_24 sz_24 rfl ((((((((B1.ext Eb2).ext Eb3).ext Eb4).ext E1).ext E2).ext E3).ext E9).ext E10) rfl rfl) ?_
              refine lx_value (want rfl) (rn_fieldAddr fa_38_1 rfl) ?_
              refine lx_value (want rfl) (rn_loadBlk ag_36 sz_36 rfl (((((((B2.ext Eb3).ext Eb4).ext E1).ext E2).ext E3).ext E9).ext E10) rfl rfl) ?_
              refine lx_value (want rfl) (rn_fieldAddr fa_38_2 rfl) ?_
              refine lx_value (want rfl) (rn_loadBlk ag_36 sz_36 rfl (((((((B2.ext Eb3).ext Eb4).ext E1).ext E2).ext E3).ext E9).ext E10) rfl rfl) ?_
              refine lx_value (want rfl) (rn_fieldAddr fa_38_4 rfl) ?_
              refine lx_value (want rfl) (rn_load1Blk ag_3 rfl (((((((B2.ext Eb3).ext Eb4).ext E1).ext E2).ext E3).ext E9).ext E10) rfl) ?_
              have hD := do_3 (args_yes (of_decide_eq_true hin) hkv (fun _ => hki) (fun g => absurd g h2)) h3
              refine lx_call (want rfl) (ent_func cf_90 (argsC (t_agg rfl) (argsC (t_agg rfl) (argsC (t_agg rfl) (argsC (t_int rfl) args0))))) (CT.mono (refread_ct m s c _ hB o.v o.ix hs o.rd w9 (hm0.fr (st_stab _) F23 (fun _ _ h => h))) (fun _ _ h => h) (fun v w2 _ h => show OutA (fun k => G k ∧ k < w0.heap.size) w9.heap.size w2 v (doR m o) from by rw [hD]; exact h)) ?_
              rintro _ w10 E11 ⟨sR, nR, cR, rfl, hR⟩
              have F24 := F23.ext E11
              have hz11 := E11.size
              refine lx_value (want rfl) (mv_tuple rfl) ?_
              refine lx_value (want rfl) (rn_extract rfl rfl) ?_
              refine lx_value (want rfl) (rn_extract rfl rfl) ?_
              refine lx_value (want rfl) (rn_extract rfl rfl) ?_
              refine lx_set (want rfl) sz_24 rfl (t_agg rfl) rfl rfl rfl (hB9.ext E11) (Nat.le_of_ble_eq_true rfl) ?_
              intro w11 Es10 Bs10
              have F25 := F24.set Es10 (by omega)
              have hzs10 := Es10.size
              refine lx_set (want rfl) sz_36 rfl (t_agg rfl) rfl rfl rfl ((hB10.ext E11).ne Es10 (by omega)) (Nat.le_of_ble_eq_true rfl) ?_
              intro w12 Es11 Bs11
              have F26 := F25.set Es11 (by omega)
              have hzs11 := Es11.size
              refine lx_value (want rfl) (as_int rfl) ?_
              refine lx_nil ?_
              refine wk_seq ?_
              refine wk_seq ?_
              refine wk_region ?_
              refine lx_value (want rfl) (mv_int rfl) ?_
              refine lx_value (want rfl) (rn_neq rfl rfl) ?_
              refine lx_dec (fun herr => ?_) (fun herr => ?_)
              ·
                refine lx_nil ?_
                refine wk_cond_t rfl ?_
                refine wk_seq ?_
                refine wk_region ?_
                refine lx_value (want rfl) (rn_build0  (fun w => bd_24  w)) ?_
                refine lx_value (want rfl) (rn_build0  (fun w => bd_36  w)) ?_
                refine lx_value (want rfl) (mv_int rfl) ?_
                refine lx_set (want rfl) sz_24 rfl (t_agg rfl) rfl rfl rfl (((((((((B3.ext Eb4).ext E1).ext E2).ext E3).ext E9).ext E10).ext E11).ne Es10 (by omega)).ne Es11 (by omega)) (Nat.le_of_ble_eq_true rfl) ?_
                intro w13 Es12 Bs12
                have F27 := F26.set Es12 (by omega)
                have hzs12 := Es12.size
                refine lx_set (want rfl) sz_36 rfl (t_agg rfl) rfl rfl rfl (((((((((B4.ext E1).ext E2).ext E3).ext E9).ext E10).ext E11).ne Es10 (by omega)).ne Es11 (by omega)).ne Es12 (by omega)) (Nat.le_of_ble_eq_true rfl) ?_
                intro w14 Es13 Bs13
                have F28 := F27.set Es13 (by omega)
                have hzs13 := Es13.size
                refine lx_value (want rfl) (as_slice rfl) ?_
                refine lx_value (want rfl) (as_int rfl) ?_
                refine lx_nil ?_
                refine wk_ret ?_
                refine retR4 Tryz.results44 (.cell rfl (run_loadVar_blk ag_24 sz_24 (Bs12.ne Es13 (by omega)) rfl rfl)) (.cell rfl (run_loadVar_blk ag_36 sz_36 Bs13 rfl rfl)) (.tmp (t_slice rfl)) (.tmp (t_int rfl)) F28 ?_
                exact outD_err hok herr
              ·
                have herr0 : (doR m o).1 = 0 := Decidable.not_not.1 herr
                obtain ⟨hn, hMS⟩ := hR herr0
                subst hn
                have hB2 := okM_Bm (do_ok hok herr0).1
                refine lx_nil ?_
                refine wk_cond_f rfl ?_
                refine wk_skip ?_
                refine wk_seq ?_
                refine wk_mixK2 6 4 5 (((((((((B3.ext Eb4).ext E1).ext E2).ext E3).ext E9).ext E10).ext E11).ne Es10 (by omega)).ne Es11 (by omega)) ((((((((B4.ext E1).ext E2).ext E3).ext E9).ext E10).ext E11).ne Es10 (by omega)).ne Es11 (by omega)) (by decide) (by omega) (fun kS => match kS with | 1 => .any (fun I v w => ∃ (s : Option Addr) (c : Nat) (T : List (SE Vl Rd)), v = .agg #[.slice s T.length c] ∧ T.map SE.abs = (doR m o).2.1 ∧ MTab w 65 36 2 vlC 115 2 rdC s c T ∧ ∀ k, mtb s T k → w12.heap.size ≤ k ∧ I.1 ≤ k ∧ k < I.2) | 4 => .sto 4 115 (fun J u w => J.1 < J.2 ∧ Blk w J.1 u.cells.toList 24) | 5 => .sto 5 116 (fun J u w => J.1 < J.2 ∧ Blk w J.1 u.cells.toList 36) | _ => .none) (by kernel_rfl) (by kernel_rfl) (by intro kS G hk; (try dsimp only at hk); (split at hk) <;> first | (cases hk; done) | (injection hk with hk; subst hk; exact ⟨by intro j hkj I v w w' hR hG; first | exact hG | (obtain ⟨s, c, T, h1, h2, h3, h4⟩ := hG; exact ⟨s, c, T, h1, h2, h3.ext hR, h4⟩), fun _ I v w w' hR hG => by first | exact hG | (obtain ⟨s, c, T, h1, h2, h3, h4⟩ := hG; exact ⟨s, c, T, h1, h2, h3.fr hR (fun k hk h => h.2 ⟨(h4 k hk).2.1, (h4 k hk).2.2⟩), h4⟩)⟩)) (by intro kS s y G hk; (try dsimp only at hk); (split at hk) <;> first | (cases hk; done) | (injection hk with hk1 hk2 hk3; subst hk1; subst hk2; subst hk3; exact ⟨by kernel_rfl, by intro j hkj I v w w' hR hG; exact ⟨hG.1, hG.2.ext hR⟩, fun I v w w' hR hG => ⟨hG.1, hG.2.fr hR (fun h => h.2 ⟨Nat.le_refl _, hG.1⟩)⟩⟩)) ?_
                simp only [List.take_succ_cons, List.take_zero, List.take_nil, List.drop_succ_cons, List.drop_zero, List.drop_nil]
                refine mx_calm rfl (want rfl) (fun u19 eu19 fu19 => rn_loadBlk ag_24 sz_24 rfl ((Bs10.ne Es11 (by omega)).fr (mG eu19) (show ¬ (I9.1 = b3 ∨ I9.1 = b4) by omega)) rfl rfl) ?_
                refine mx_any rfl rfl (want rfl) (fun u20 eu20 fu20 => do_call (ent_func cf_20 (argsC (t_agg rfl) args0)) (copy_ct (doR m o).2.1 _ _ _ hB2 u20 ((hMS.fr (st_stab _) (Fr.trans (Fr.trans (Fr.refl (fun k => k = I9.1 ∨ k = I10.1) w10) Es10 (fun k _ h => (.inl h))) Es11 (fun k _ h => (.inr h))) (fun k hk h => by have hk := Or.imp And.right id hk; (try dsimp only at h); omega)).fr (st_stab _) (mG eu20) (fun k hk h => by have hk := Or.imp And.right id hk; (try dsimp only at h); omega))) (fun v w' E h => ⟨E, by obtain ⟨s, c, T, h1, h2, h3, h4⟩ := h; exact ⟨s, c, T, h1, h2, h3, fun k hk => ⟨Nat.le_trans (mG eu20).size (h4 k hk), h4 k hk, h3.lt hk⟩⟩⟩)) (fun I115 v115 => ?_)
                refine mx_calm rfl (want rfl) (fun u21 eu21 fu21 => rn_loadBlk ag_36 sz_36 rfl (Bs11.fr (mG eu21) (show ¬ (I10.1 = b3 ∨ I10.1 = b4) by omega)) rfl rfl) ?_
                refine mx_calm rfl (want rfl) (fun u22 eu22 fu22 => mv_slice rfl) ?_
                refine mx_sto rfl rfl rfl rfl (want rfl) (fun u23 eu23 fu23 _ => by obtain hB4 := fu23 4 _ rfl (show (4 : Nat) ∈ _ from by decide); obtain ⟨s2, c2, T2, rfl, _, _, _⟩ := fu23 115 _ rfl (show (115 : Nat) ∈ _ from by decide); exact (do_sto sz_24 rfl rfl rfl rfl rfl hB4 rfl ⟨Nat.le_refl _, (Nat.lt_succ_self _)⟩).mono (fun v w' h => ⟨h.1, h.2.1, (Nat.lt_succ_self _), h.2.2⟩)) ?_
                refine mx_sto rfl rfl rfl rfl (want rfl) (fun u24 eu24 fu24 _ => by obtain hB5 := fu24 5 _ rfl (show (5 : Nat) ∈ _ from by decide); exact (do_sto sz_36 rfl rfl rfl rfl rfl hB5 rfl ⟨Nat.le_refl _, (Nat.lt_succ_self _)⟩).mono (fun v w' h => ⟨h.1, h.2.1, (Nat.lt_succ_self _), h.2.2⟩)) ?_
                refine mx_nil (fun w13 E12' H4 HS => ?_)
                have E12 := mG E12'
                have F29 := F26.new E12 (fun k h => by have h : k = b3 ∨ k = b4 := h; omega)
                have hz12 := E12.size
                obtain ⟨_, _, hBK13_3⟩ := H4 4 _ rfl
                obtain ⟨_, _, hBK13_4⟩ := H4 5 _ rfl
                have hI115 := (HS.1 115 _ rfl).2
                simp only at hI115
                have g115 := H4 115 _ rfl
                obtain ⟨sC, cC, TC, rfl, hTC, hTabC, hgC1⟩ := g115
                have hgC := fun k hk => (hgC1 k hk).1
                have tg4 : ∀ k, mtb sC TC k → w0.heap.size ≤ k := fun k hk => ((mtb_inr hgC) k hk).elim ((fun _ h => mtb_nil h) k) (fun h => by omega)
                have tn4_1 : ∀ k, mtb sC TC k → k ≠ b1 := fun k hk => ((mtb_inr hgC) k hk).elim ((fun _ h => mtb_nil h) k) (fun h => by have := (B1).lt; omega)
                have tn4_2 : ∀ k, mtb sC TC k → k ≠ b2 := fun k hk => ((mtb_inr hgC) k hk).elim ((fun _ h => mtb_nil h) k) (fun h => by have := (B2).lt; omega)
                have tn4_3 : ∀ k, mtb sC TC k → k ≠ b3 := fun k hk => ((mtb_inr hgC) k hk).elim ((fun _ h => mtb_nil h) k) (fun h => by have := (hBK13_3).lt; omega)
                have tn4_4 : ∀ k, mtb sC TC k → k ≠ b4 := fun k hk => ((mtb_inr hgC) k hk).elim ((fun _ h => mtb_nil h) k) (fun h => by have := (hBK13_4).lt; omega)
                have tn4_1010 : ∀ k, mtb sC TC k → k ≠ I10.1 := fun k hk => ((mtb_inr hgC) k hk).elim ((fun _ h => mtb_nil h) k) (fun h => by have := (Bs11).lt; omega)
                have tn4_1009 : ∀ k, mtb sC TC k → k ≠ I9.1 := fun k hk => ((mtb_inr hgC) k hk).elim ((fun _ h => mtb_nil h) k) (fun h => by have := (Bs10).lt; omega)
                refine lx_value (want rfl) (as_slice rfl) ?_
                refine lx_value (want rfl) (as_int rfl) ?_
                refine lx_nil ?_
                refine wk_ret ?_
                refine retR4 Tryz.results44 (.cell rfl (run_loadVar_blk ag_24 sz_24 hBK13_3 rfl rfl)) (.cell rfl (run_loadVar_blk ag_36 sz_36 hBK13_4 rfl rfl)) (.tmp (t_slice rfl)) (.tmp (t_int rfl)) F29 ?_
                exact outD_ok hok herr0 hTC hTabC hgC (by omega) rfl (by rw [hD, read_told']; rfl) (by rw [hD, read_told']; exact tl_nil)
            ·
              refine lx_value (want_if (j := 8) (d := 42) (x := true) (y := true) rfl rfl (by decide) rfl) (rn_not rfl) ?_
              refine lx_value (want rfl) (pick_t rfl rfl) ?_
              refine lx_value (want rfl) (mv_bool rfl) ?_
              refine lx_skip (want_if (j := 15) (d := 49) (x := false) (y := true) rfl rfl (by decide) rfl) ?_
              refine lx_skip (want_if (j := 15) (d := 49) (x := false) (y := true) rfl rfl (by decide) rfl) ?_
              refine lx_skip (want_if (j := 15) (d := 49) (x := false) (y := true) rfl rfl (by decide) rfl) ?_
              refine lx_skip (want_if (j := 15) (d := 49) (x := false) (y := true) rfl rfl (by decide) rfl) ?_
              refine lx_skip (want_un (j := 19) (d := 53) (x := true) rfl rfl (by decide) rfl) ?_
              refine lx_skip (want_un (j := 19) (d := 53) (x := true) rfl rfl (by decide) rfl) ?_
              refine lx_skip (want_un (j := 19) (d := 53) (x := true) rfl rfl (by decide) rfl) ?_
              refine lx_skip (want_un (j := 19) (d := 53) (x := true) rfl rfl (by decide) rfl) ?_
              refine lx_skip (want_un (j := 19) (d := 53) (x := true) rfl rfl (by decide) rfl) ?_
              refine lx_skip (want_if (j := 15) (d := 49) (x := false) (y := true) rfl rfl (by decide) rfl) ?_
              refine lx_value (want rfl) (pick_t rfl rfl) ?_
              refine lx_nil ?_
              refine wk_cond_t rfl ?_
              refine wk_seq ?_
              refine wk_region ?_
              refine lx_value (want rfl) (rn_build0  (fun w => bd_24  w)) ?_
              refine lx_value (want rfl) (rn_build0  (fun w => bd_36  w)) ?_
              refine lx_set (want rfl) sz_24 rfl (t_agg rfl) rfl rfl rfl (((((B3.ext Eb4).ext E1).ext E2).ext E3).ext E9) (Nat.le_of_ble_eq_true rfl) ?_
              intro w9 Es14 Bs14
              have F30 := F22.set Es14 (by omega)
              have hzs14 := Es14.size
              refine lx_set (want rfl) sz_36 rfl (t_agg rfl) rfl rfl rfl (((((B4.ext E1).ext E2).ext E3).ext E9).ne Es14 (by omega)) (Nat.le_of_ble_eq_true rfl) ?_
              intro w10 Es15 Bs15
              have F31 := F30.set Es15 (by omega)
              have hzs15 := Es15.size
              refine lx_value (want rfl) (as_slice rfl) ?_
              refine lx_value (want rfl) (as_int rfl) ?_
              refine lx_nil ?_
              refine wk_ret ?_
              refine retR4 Tryz.results44 (.cell rfl (run_loadVar_blk ag_24 sz_24 (Bs14.ne Es15 (by omega)) rfl rfl)) (.cell rfl (run_loadVar_blk ag_36 sz_36 Bs15 rfl rfl)) (.tmp (t_slice rfl)) (.tmp (t_int rfl)) F31 ?_
              exact outD_args hok (args_ix (.inr h3) hki)
          ·
            refine lx_value (want rfl) (pick_f rfl rfl) ?_
            refine lx_value (want rfl) (mv_bool rfl) ?_
            refine lx_skip (want_if (j := 8) (d := 42) (x := true) (y := false) rfl rfl (by decide) rfl) ?_
            refine lx_skip (want_if (j := 8) (d := 42) (x := true) (y := false) rfl rfl (by decide) rfl) ?_
            refine lx_skip (want_if (j := 8) (d := 42) (x := true) (y := false) rfl rfl (by decide) rfl) ?_
            refine lx_skip (want_if (j := 8) (d := 42) (x := true) (y := false) rfl rfl (by decide) rfl) ?_
            refine lx_skip (want_if (j := 8) (d := 42) (x := true) (y := false) rfl rfl (by decide) rfl) ?_
            refine lx_value (want rfl) (pick_f rfl rfl) ?_
            refine lx_value (want rfl) (mv_bool rfl) ?_
            refine lx_value (want_if (j := 15) (d := 49) (x := false) (y := false) rfl rfl (by decide) rfl) (rn_fieldAddr fa_38_0 rfl) ?_
            refine lx_value (want_if (j := 15) (d := 49) (x := false) (y := false) rfl rfl (by decide) rfl) (rn_load1Blk ag_5 rfl (((((B2.ext Eb3).ext Eb4).ext E1).ext E2).ext E3) rfl) ?_
            refine lx_value (want_if (j := 15) (d := 49) (x := false) (y := false) rfl rfl (by decide) rfl) (rn_eql rfl rfl) ?_
            refine lx_dec_f (h2) ?_
            refine lx_value (want_if (j := 15) (d := 49) (x := false) (y := false) rfl rfl (by decide) rfl) (mv_bool rfl) ?_
            refine lx_skip (want_if (j := 19) (d := 53) (x := true) (y := false) rfl rfl (by decide) rfl) ?_
            refine lx_skip (want_if (j := 19) (d := 53) (x := true) (y := false) rfl rfl (by decide) rfl) ?_
            refine lx_skip (want_if (j := 19) (d := 53) (x := true) (y := false) rfl rfl (by decide) rfl) ?_
            refine lx_skip (want_if (j := 19) (d := 53) (x := true) (y := false) rfl rfl (by decide) rfl) ?_
            refine lx_skip (want_if (j := 19) (d := 53) (x := true) (y := false) rfl rfl (by decide) rfl) ?_
            refine lx_value (want_if (j := 15) (d := 49) (x := false) (y := false) rfl rfl (by decide) rfl) (pick_f rfl rfl) ?_
            refine lx_value (want rfl) (pick_f rfl rfl) ?_
            refine lx_nil ?_
            refine wk_cond_f rfl ?_
            refine wk_skip ?_
            refine wk_seq ?_
            refine wk_mix 6 (fun kS => match kS with | 1 => .val (.agg #[.int .u8 3, .int .i64 0]) | 2 => .any (fun I v w => v = .pointer (some ⟨I.1, 0, none⟩) ∧ w7.heap.size ≤ I.1 ∧ I.1 < I.2 ∧ Blk w I.1 [.slice none 0 0] 24) | 3 => .any (fun I v w => v = .pointer (some ⟨I.1, 0, none⟩) ∧ w7.heap.size ≤ I.1 ∧ I.1 < I.2 ∧ Blk w I.1 [.int .u8 0, .int .i64 0] 36) | 4 => .sto 9 63 (fun J u w => J.1 < J.2 ∧ Blk w J.1 u.cells.toList 24) | 5 => .sto 10 64 (fun J u w => J.1 < J.2 ∧ Blk w J.1 u.cells.toList 36) | _ => .none) (by kernel_rfl) (by kernel_rfl) (by intro kS G hk; (try dsimp only at hk); (split at hk) <;> first | (cases hk; done) | (injection hk with hk; subst hk; exact ⟨by intro j hkj I v w w' hR hG; first | exact hG | (obtain ⟨h1, h2, hI, h3⟩ := hG; exact ⟨h1, h2, hI, h3.ext hR⟩) | (obtain ⟨h1, h2, hI, h3⟩ := hG; exact ⟨h1, h2, hI, h3.ext hR⟩), fun _ I v w w' hR hG => by first | exact hG | (obtain ⟨h1, h2, hI, h3⟩ := hG; exact ⟨h1, h2, hI, h3.fr hR (fun h => h.2 ⟨Nat.le_refl _, hI⟩)⟩) | (obtain ⟨h1, h2, hI, h3⟩ := hG; exact ⟨h1, h2, hI, h3.fr hR (fun h => h.2 ⟨Nat.le_refl _, hI⟩)⟩)⟩)) (by intro kS s y G hk; (try dsimp only at hk); (split at hk) <;> first | (cases hk; done) | (injection hk with hk1 hk2 hk3; subst hk1; subst hk2; subst hk3; exact ⟨by kernel_rfl, by intro j hkj I v w w' hR hG; exact ⟨hG.1, hG.2.ext hR⟩, fun I v w w' hR hG => ⟨hG.1, hG.2.fr hR (fun h => h.2 ⟨Nat.le_refl _, hG.1⟩)⟩⟩)) ?_
            simp only [List.take_succ_cons, List.take_zero, List.take_nil, List.drop_succ_cons, List.drop_zero, List.drop_nil]
            refine mx_calm rfl (want rfl) (fun u25 eu25 fu25 => rn_loadBlk ag_24 sz_24 rfl (((((((B1.ext Eb2).ext Eb3).ext Eb4).ext E1).ext E2).ext E3).ext ((ext_drawn _).trans' eu25)) rfl rfl) ?_
            refine mx_val rfl (want rfl) (fun u26 eu26 fu26 => do_call (ent_func cf_66 args0) (nil_ct u26) (fun _ _ E h => ⟨E, h⟩)) ?_
            refine mx_any rfl rfl (want rfl) (fun u27 eu27 fu27 => (do_new3 (rn_alloc ze_24) (show _ ≤ _ from (((ext_drawn _).trans' eu27)).size)).mono (fun v w' h => ⟨h.1, h.2⟩)) (fun I9 v9 => ?_)
            refine mx_any rfl rfl (want rfl) (fun u28 eu28 fu28 => (do_new3 (rn_alloc ze_36) (show _ ≤ _ from (((ext_drawn _).trans' eu28)).size)).mono (fun v w' h => ⟨h.1, h.2⟩)) (fun I10 v10 => ?_)
            refine mx_sto rfl rfl rfl rfl (want rfl) (fun u29 eu29 fu29 _ => by obtain ⟨rfl, hl9, hi9, hB9⟩ := fu29 9 _ rfl (show (9 : Nat) ∈ _ from by decide); exact (do_sto sz_24 rfl rfl rfl rfl rfl hB9 rfl ⟨Nat.le_refl _, hi9⟩).mono (fun v w' h => ⟨h.1, h.2.1, hi9, h.2.2⟩)) ?_
            refine mx_sto rfl rfl rfl rfl (want rfl) (fun u30 eu30 fu30 _ => by obtain ⟨rfl, hl10, hi10, hB10⟩ := fu30 10 _ rfl (show (10 : Nat) ∈ _ from by decide); exact (do_sto sz_36 rfl rfl rfl rfl rfl hB10 rfl ⟨Nat.le_refl _, hi10⟩).mono (fun v w' h => ⟨h.1, h.2.1, hi10, h.2.2⟩)) ?_
            refine mx_nil (fun w8 E13' H5 HS => ?_)
            have E13 := (ext_drawn _).trans' E13'
            have F32 := F9.ext E13
            have hz13 := E13.size
            have hI10 := (HS.1 10 _ rfl).2
            have hI9 := (HS.1 9 _ rfl).2
            have hX10_9 := HS.2 10 _ 9 _ rfl rfl (show (10 : Nat) ≠ 9 from by decide)
            simp only at hI10
            simp only at hI9
            simp only at hX10_9
            have g10 := H5 10 _ rfl
            obtain ⟨⟨_, hv10, hb10, _, _⟩, hi10, hB10⟩ := g10; subst hv10; have hlb10 := hB10.lt
            have g9 := H5 9 _ rfl
            obtain ⟨⟨_, hv9, hb9, _, _⟩, hi9, hB9⟩ := g9; subst hv9; have hlb9 := hB9.lt
            refine lx_value (want rfl) (as_slice rfl) ?_
            refine lx_value (want rfl) (as_int rfl) ?_
            refine lx_nil ?_
            refine wk_seq ?_
            refine wk_seq ?_
            refine wk_region ?_
            refine lx_value (want rfl) (rn_fieldAddr fa_38_0 rfl) ?_
            refine lx_value (want rfl) (rn_load1Blk ag_5 rfl ((((((B2.ext Eb3).ext Eb4).ext E1).ext E2).ext E3).ext E13) rfl) ?_
            refine lx_nil ?_
            refine wk_block ?_
            refine wk_seq ?_
            refine wk_region ?_
            refine lx_value (want rfl) (rn_eql rfl rfl) ?_
            refine lx_dec (fun h1 => ?_) (fun h1 => ?_)
            ·
              refine lx_value (want rfl) (as_bool rfl) ?_
              refine lx_nil ?_
              refine wk_cond_t rfl ?_
              refine wk_region ?_
              refine lx_value (want rfl) (rn_loadBlk ag_24 sz_24 rfl (((((((B1.ext Eb2).ext Eb3).ext Eb4).ext E1).ext E2).ext E3).ext E13) rfl rfl) ?_
              refine lx_value (want rfl) (rn_fieldAddr fa_38_1 rfl) ?_
              refine lx_value (want rfl) (rn_loadBlk ag_36 sz_36 rfl ((((((B2.ext Eb3).ext Eb4).ext E1).ext E2).ext E3).ext E13) rfl rfl) ?_
              have hD := do_1 (args_yes (of_decide_eq_true hin) hkv (fun g => absurd g (by omega)) (fun g => absurd g h2)) h1
              refine lx_call (want rfl) (ent_func cf_88 (argsC (t_agg rfl) (argsC (t_agg rfl) args0))) (CT.mono (refalloc_ct m s c _ hB o.v w8 (hm0.fr (st_stab _) F32 (fun _ _ h => h))) (fun _ _ h => h) (fun v w2 _ h => show OutA (fun k => G k ∧ k < w0.heap.size) w8.heap.size w2 v (doR m o) from by rw [hD]; exact h)) ?_
              rintro _ w9 E14 ⟨sR, nR, cR, rfl, hR⟩
              have F33 := F32.ext E14
              have hz14 := E14.size
              refine lx_value (want rfl) (mv_tuple rfl) ?_
              refine lx_value (want rfl) (rn_extract rfl rfl) ?_
              refine lx_value (want rfl) (rn_extract rfl rfl) ?_
              refine lx_value (want rfl) (rn_extract rfl rfl) ?_
              refine lx_set (want rfl) sz_24 rfl (t_agg rfl) rfl rfl rfl (hB9.ext E14) (Nat.le_of_ble_eq_true rfl) ?_
              intro w10 Es16 Bs16
              have F34 := F33.set Es16 (by omega)
              have hzs16 := Es16.size
              refine lx_set (want rfl) sz_36 rfl (t_agg rfl) rfl rfl rfl ((hB10.ext E14).ne Es16 (by omega)) (Nat.le_of_ble_eq_true rfl) ?_
              intro w11 Es17 Bs17
              have F35 := F34.set Es17 (by omega)
              have hzs17 := Es17.size
              refine lx_value (want rfl) (as_int rfl) ?_
              refine lx_nil ?_
              refine wk_seq ?_
              refine wk_seq ?_
              refine wk_region ?_
              refine lx_value (want rfl) (mv_int rfl) ?_
              refine lx_value (want rfl) (rn_neq rfl rfl) ?_
              refine lx_dec (fun herr => ?_) (fun herr => ?_)
              ·
                refine lx_nil ?_
                refine wk_cond_t rfl ?_
                refine wk_seq ?_
                refine wk_region ?_
                refine lx_value (want rfl) (rn_build0  (fun w => bd_24  w)) ?_
                refine lx_value (want rfl) (rn_build0  (fun w => bd_36  w)) ?_
                refine lx_value (want rfl) (mv_int rfl) ?_
                refine lx_set (want rfl) sz_24 rfl (t_agg rfl) rfl rfl rfl ((((((((B3.ext Eb4).ext E1).ext E2).ext E3).ext E13).ext E14).ne Es16 (by omega)).ne Es17 (by omega)) (Nat.le_of_ble_eq_true rfl) ?_
                intro w12 Es18 Bs18
                have F36 := F35.set Es18 (by omega)
                have hzs18 := Es18.size
                refine lx_set (want rfl) sz_36 rfl (t_agg rfl) rfl rfl rfl ((((((((B4.ext E1).ext E2).ext E3).ext E13).ext E14).ne Es16 (by omega)).ne Es17 (by omega)).ne Es18 (by omega)) (Nat.le_of_ble_eq_true rfl) ?_
                intro w13 Es19 Bs19
                have F37 := F36.set Es19 (by omega)
                have hzs19 := Es19.size
                refine lx_value (want rfl) (as_slice rfl) ?_
                refine lx_value (want rfl) (as_int rfl) ?_
                refine lx_nil ?_
                refine wk_ret ?_
                refine retR4 Tryz.results44 (.cell rfl (run_loadVar_blk ag_24 sz_24 (Bs18.ne Es19 (by omega)) rfl rfl)) (.cell rfl (run_loadVar_blk ag_36 sz_36 Bs19 rfl rfl)) (.tmp (t_slice rfl)) (.tmp (t_int rfl)) F37 ?_
                exact outD_err hok herr
              ·
                have herr0 : (doR m o).1 = 0 := Decidable.not_not.1 herr
                obtain ⟨hn, hMS⟩ := hR herr0
                subst hn
                have hB2 := okM_Bm (do_ok hok herr0).1
                refine lx_nil ?_
                refine wk_cond_f rfl ?_
                refine wk_skip ?_
                refine wk_seq ?_
                refine wk_mixK2 6 4 5 ((((((((B3.ext Eb4).ext E1).ext E2).ext E3).ext E13).ext E14).ne Es16 (by omega)).ne Es17 (by omega)) (((((((B4.ext E1).ext E2).ext E3).ext E13).ext E14).ne Es16 (by omega)).ne Es17 (by omega)) (by decide) (by omega) (fun kS => match kS with | 1 => .any (fun I v w => ∃ (s : Option Addr) (c : Nat) (T : List (SE Vl Rd)), v = .agg #[.slice s T.length c] ∧ T.map SE.abs = (doR m o).2.1 ∧ MTab w 65 36 2 vlC 115 2 rdC s c T ∧ ∀ k, mtb s T k → w11.heap.size ≤ k ∧ I.1 ≤ k ∧ k < I.2) | 4 => .sto 4 115 (fun J u w => J.1 < J.2 ∧ Blk w J.1 u.cells.toList 24) | 5 => .sto 5 116 (fun J u w => J.1 < J.2 ∧ Blk w J.1 u.cells.toList 36) | _ => .none) (by kernel_rfl) (by kernel_rfl) (by intro kS G hk; (try dsimp only at hk); (split at hk) <;> first | (cases hk; done) | (injection hk with hk; subst hk; exact ⟨by intro j hkj I v w w' hR hG; first | exact hG | (obtain ⟨s, c, T, h1, h2, h3, h4⟩ := hG; exact ⟨s, c, T, h1, h2, h3.ext hR, h4⟩), fun _ I v w w' hR hG => by first | exact hG | (obtain ⟨s, c, T, h1, h2, h3, h4⟩ := hG; exact ⟨s, c, T, h1, h2, h3.fr hR (fun k hk h => h.2 ⟨(h4 k hk).2.1, (h4 k hk).2.2⟩), h4⟩)⟩)) (by intro kS s y G hk; (try dsimp only at hk); (split at hk) <;> first | (cases hk; done) | (injection hk with hk1 hk2 hk3; subst hk1; subst hk2; subst hk3; exact ⟨by kernel_rfl, by intro j hkj I v w w' hR hG; exact ⟨hG.1, hG.2.ext hR⟩, fun I v w w' hR hG => ⟨hG.1, hG.2.fr hR (fun h => h.2 ⟨Nat.le_refl _, hG.1⟩)⟩⟩)) ?_
                simp only [List.take_succ_cons, List.take_zero, List.take_nil, List.drop_succ_cons, List.drop_zero, List.drop_nil]
                refine mx_calm rfl (want rfl) (fun u31 eu31 fu31 => rn_loadBlk ag_24 sz_24 rfl ((Bs16.ne Es17 (by omega)).fr (mG eu31) (show ¬ (I9.1 = b3 ∨ I9.1 = b4) by omega)) rfl rfl) ?_
                refine mx_any rfl rfl (want rfl) (fun u32 eu32 fu32 => do_call (ent_func cf_20 (argsC (t_agg rfl) args0)) (copy_ct (doR m o).2.1 _ _ _ hB2 u32 ((hMS.fr (st_stab _) (Fr.trans (Fr.trans (Fr.refl (fun k => k = I9.1 ∨ k = I10.1) w9) Es16 (fun k _ h => (.inl h))) Es17 (fun k _ h => (.inr h))) (fun k hk h => by have hk := Or.imp And.right id hk; (try dsimp only at h); omega)).fr (st_stab _) (mG eu32) (fun k hk h => by have hk := Or.imp And.right id hk; (try dsimp only at h); omega))) (fun v w' E h => ⟨E, by obtain ⟨s, c, T, h1, h2, h3, h4⟩ := h; exact ⟨s, c, T, h1, h2, h3, fun k hk => ⟨Nat.le_trans (mG eu32).size (h4 k hk), h4 k hk, h3.lt hk⟩⟩⟩)) (fun I115 v115 => ?_)
                refine mx_calm rfl (want rfl) (fun u33 eu33 fu33 => rn_loadBlk ag_36 sz_36 rfl (Bs17.fr (mG eu33) (show ¬ (I10.1 = b3 ∨ I10.1 = b4) by omega)) rfl rfl) ?_
                refine mx_calm rfl (want rfl) (fun u34 eu34 fu34 => mv_slice rfl) ?_
                refine mx_sto rfl rfl rfl rfl (want rfl) (fun u35 eu35 fu35 _ => by obtain hB4 := fu35 4 _ rfl (show (4 : Nat) ∈ _ from by decide); obtain ⟨s2, c2, T2, rfl, _, _, _⟩ := fu35 115 _ rfl (show (115 : Nat) ∈ _ from by decide); exact (do_sto sz_24 rfl rfl rfl rfl rfl hB4 rfl ⟨Nat.le_refl _, (Nat.lt_succ_self _)⟩).mono (fun v w' h => ⟨h.1, h.2.1, (Nat.lt_succ_self _), h.2.2⟩)) ?_
                refine mx_sto rfl rfl rfl rfl (want rfl) (fun u36 eu36 fu36 _ => by obtain hB5 := fu36 5 _ rfl (show (5 : Nat) ∈ _ from by decide); exact (do_sto sz_36 rfl rfl rfl rfl rfl hB5 rfl ⟨Nat.le_refl _, (Nat.lt_succ_self _)⟩).mono (fun v w' h => ⟨h.1, h.2.1, (Nat.lt_succ_self _), h.2.2⟩)) ?_
                refine mx_nil (fun w12 E15' H6 HS => ?_)
                have E15 := mG E15'
                have F38 := F35.new E15 (fun k h => by have h : k = b3 ∨ k = b4 := h; omega)
                have hz15 := E15.size
                obtain ⟨_, _, hBK12_3⟩ := H6 4 _ rfl
                obtain ⟨_, _, hBK12_4⟩ := H6 5 _ rfl
                have hI115 := (HS.1 115 _ rfl).2
                simp only at hI115
                have g115 := H6 115 _ rfl
                obtain ⟨sC, cC, TC, rfl, hTC, hTabC, hgC1⟩ := g115
                have hgC := fun k hk => (hgC1 k hk).1
                have tg6 : ∀ k, mtb sC TC k → w0.heap.size ≤ k := fun k hk => ((mtb_inr hgC) k hk).elim ((fun _ h => mtb_nil h) k) (fun h => by omega)
                have tn6_1 : ∀ k, mtb sC TC k → k ≠ b1 := fun k hk => ((mtb_inr hgC) k hk).elim ((fun _ h => mtb_nil h) k) (fun h => by have := (B1).lt; omega)
                have tn6_2 : ∀ k, mtb sC TC k → k ≠ b2 := fun k hk => ((mtb_inr hgC) k hk).elim ((fun _ h => mtb_nil h) k) (fun h => by have := (B2).lt; omega)
                have tn6_3 : ∀ k, mtb sC TC k → k ≠ b3 := fun k hk => ((mtb_inr hgC) k hk).elim ((fun _ h => mtb_nil h) k) (fun h => by have := (hBK12_3).lt; omega)
                have tn6_4 : ∀ k, mtb sC TC k → k ≠ b4 := fun k hk => ((mtb_inr hgC) k hk).elim ((fun _ h => mtb_nil h) k) (fun h => by have := (hBK12_4).lt; omega)
                have tn6_1010 : ∀ k, mtb sC TC k → k ≠ I10.1 := fun k hk => ((mtb_inr hgC) k hk).elim ((fun _ h => mtb_nil h) k) (fun h => by have := (Bs17).lt; omega)
                have tn6_1009 : ∀ k, mtb sC TC k → k ≠ I9.1 := fun k hk => ((mtb_inr hgC) k hk).elim ((fun _ h => mtb_nil h) k) (fun h => by have := (Bs16).lt; omega)
                refine lx_value (want rfl) (as_slice rfl) ?_
                refine lx_value (want rfl) (as_int rfl) ?_
                refine lx_nil ?_
                refine wk_ret ?_
                refine retR4 Tryz.results44 (.cell rfl (run_loadVar_blk ag_24 sz_24 hBK12_3 rfl rfl)) (.cell rfl (run_loadVar_blk ag_36 sz_36 hBK12_4 rfl rfl)) (.tmp (t_slice rfl)) (.tmp (t_int rfl)) F38 ?_
                exact outD_ok hok herr0 hTC hTabC hgC (by omega) rfl (by rw [hD, alloc_told]; rfl) (by rw [hD, alloc_told]; exact tl_nil)
            ·
              refine lx_value (want rfl) (as_bool rfl) ?_
              refine lx_nil ?_
              refine wk_cond_f rfl ?_
              refine wk_seq ?_
              refine wk_region ?_
              refine lx_value (want rfl) (rn_eql rfl rfl) ?_
              refine lx_dec_f (h2) ?_
              refine lx_value (want rfl) (as_bool rfl) ?_
              refine lx_nil ?_
              refine wk_cond_f rfl ?_
              refine wk_seq ?_
              refine wk_region ?_
              refine lx_value (want rfl) (rn_eql rfl rfl) ?_
              refine lx_dec_f (h3) ?_
              refine lx_value (want rfl) (as_bool rfl) ?_
              refine lx_nil ?_
              refine wk_cond_f rfl ?_
              refine wk_region ?_
              refine lx_value (want rfl) (rn_loadBlk ag_24 sz_24 rfl (((((((B1.ext Eb2).ext Eb3).ext Eb4).ext E1).ext E2).ext E3).ext E13) rfl rfl) ?_
              refine lx_value (want rfl) (rn_fieldAddr fa_38_1 rfl) ?_
              refine lx_value (want rfl) (rn_loadBlk ag_36 sz_36 rfl ((((((B2.ext Eb3).ext Eb4).ext E1).ext E2).ext E3).ext E13) rfl rfl) ?_
              have hD := do_4 (args_yes (of_decide_eq_true hin) hkv (fun g => absurd g (by omega)) (fun g => absurd g h2)) h1 h2 h3
              refine lx_call (want rfl) (ent_func cf_91 (argsC (t_agg rfl) (argsC (t_agg rfl) args0))) (refsize_ct m s c _ hB o.v hs w8 (hm0.fr (st_stab _) F32 (fun _ _ h => h))) ?_
              rintro _ w9 E16 rfl
              have F39 := F32.ext E16
              have hz16 := E16.size
              have hMS : MemS (NewS (fun k => G k ∧ k < w0.heap.size) w9.heap.size w9) w9 s m := MemS.wide (hm0.fr (st_stab _) F39 (fun _ _ h => h)) (fun _ h => Or.inl h)
              refine lx_set (want rfl) sz_36 rfl (t_agg rfl) rfl rfl rfl (hB10.ext E16) (Nat.le_of_ble_eq_true rfl) ?_
              intro w10 Es20 Bs20
              have F40 := F39.set Es20 (by omega)
              have hzs20 := Es20.size
              refine lx_nil ?_
              refine wk_seq ?_
              refine wk_seq ?_
              refine wk_region ?_
              refine lx_value (want rfl) (mv_int rfl) ?_
              refine lx_value (want rfl) (rn_neq rfl rfl) ?_
              refine lx_dec_f ((fun g => g rfl)) ?_
              refine lx_nil ?_
              refine wk_cond_f rfl ?_
              refine wk_skip ?_
              refine wk_seq ?_
              refine wk_mixK2 6 4 5 (((((((B3.ext Eb4).ext E1).ext E2).ext E3).ext E13).ext E16).ne Es20 (by omega)) ((((((B4.ext E1).ext E2).ext E3).ext E13).ext E16).ne Es20 (by omega)) (by decide) (by omega) (fun kS => match kS with | 1 => .any (fun I v w => ∃ (s : Option Addr) (c : Nat) (T : List (SE Vl Rd)), v = .agg #[.slice s T.length c] ∧ T.map SE.abs = m ∧ MTab w 65 36 2 vlC 115 2 rdC s c T ∧ ∀ k, mtb s T k → w10.heap.size ≤ k ∧ I.1 ≤ k ∧ k < I.2) | 4 => .sto 4 115 (fun J u w => J.1 < J.2 ∧ Blk w J.1 u.cells.toList 24) | 5 => .sto 5 116 (fun J u w => J.1 < J.2 ∧ Blk w J.1 u.cells.toList 36) | _ => .none) (by kernel_rfl) (by kernel_rfl) (by intro kS G hk; (try dsimp only at hk); (split at hk) <;> first | (cases hk; done) | (injection hk with hk; subst hk; exact ⟨by intro j hkj I v w w' hR hG; first | exact hG | (obtain ⟨s, c, T, h1, h2, h3, h4⟩ := hG; exact ⟨s, c, T, h1, h2, h3.ext hR, h4⟩), fun _ I v w w' hR hG => by first | exact hG | (obtain ⟨s, c, T, h1, h2, h3, h4⟩ := hG; exact ⟨s, c, T, h1, h2, h3.fr hR (fun k hk h => h.2 ⟨(h4 k hk).2.1, (h4 k hk).2.2⟩), h4⟩)⟩)) (by intro kS s y G hk; (try dsimp only at hk); (split at hk) <;> first | (cases hk; done) | (injection hk with hk1 hk2 hk3; subst hk1; subst hk2; subst hk3; exact ⟨by kernel_rfl, by intro j hkj I v w w' hR hG; exact ⟨hG.1, hG.2.ext hR⟩, fun I v w w' hR hG => ⟨hG.1, hG.2.fr hR (fun h => h.2 ⟨Nat.le_refl _, hG.1⟩)⟩⟩)) ?_
              simp only [List.take_succ_cons, List.take_zero, List.take_nil, List.drop_succ_cons, List.drop_zero, List.drop_nil]
              refine mx_calm rfl (want rfl) (fun u37 eu37 fu37 => rn_loadBlk ag_24 sz_24 rfl (((hB9.ext E16).ne Es20 (by omega)).fr (mG eu37) (show ¬ (I9.1 = b3 ∨ I9.1 = b4) by omega)) rfl rfl) ?_
              refine mx_any rfl rfl (want rfl) (fun u38 eu38 fu38 => do_call (ent_func cf_20 (argsC (t_agg rfl) args0)) (copy_ct m _ _ _ hB u38 ((hMS.fr (st_stab _) (Fr.trans (Fr.refl (fun k => k = I10.1) w9) Es20 (fun k _ h => h)) (fun k hk h => by have hk := Or.imp And.right id hk; (try dsimp only at h); omega)).fr (st_stab _) (mG eu38) (fun k hk h => by have hk := Or.imp And.right id hk; (try dsimp only at h); omega))) (fun v w' E h => ⟨E, by obtain ⟨s, c, T, h1, h2, h3, h4⟩ := h; exact ⟨s, c, T, h1, h2, h3, fun k hk => ⟨Nat.le_trans (mG eu38).size (h4 k hk), h4 k hk, h3.lt hk⟩⟩⟩)) (fun I115 v115 => ?_)
              refine mx_calm rfl (want rfl) (fun u39 eu39 fu39 => rn_loadBlk ag_36 sz_36 rfl (Bs20.fr (mG eu39) (show ¬ (I10.1 = b3 ∨ I10.1 = b4) by omega)) rfl rfl) ?_
              refine mx_calm rfl (want rfl) (fun u40 eu40 fu40 => mv_slice rfl) ?_
              refine mx_sto rfl rfl rfl rfl (want rfl) (fun u41 eu41 fu41 _ => by obtain hB4 := fu41 4 _ rfl (show (4 : Nat) ∈ _ from by decide); obtain ⟨s2, c2, T2, rfl, _, _, _⟩ := fu41 115 _ rfl (show (115 : Nat) ∈ _ from by decide); exact (do_sto sz_24 rfl rfl rfl rfl rfl hB4 rfl ⟨Nat.le_refl _, (Nat.lt_succ_self _)⟩).mono (fun v w' h => ⟨h.1, h.2.1, (Nat.lt_succ_self _), h.2.2⟩)) ?_
              refine mx_sto rfl rfl rfl rfl (want rfl) (fun u42 eu42 fu42 _ => by obtain hB5 := fu42 5 _ rfl (show (5 : Nat) ∈ _ from by decide); exact (do_sto sz_36 rfl rfl rfl rfl rfl hB5 rfl ⟨Nat.le_refl _, (Nat.lt_succ_self _)⟩).mono (fun v w' h => ⟨h.1, h.2.1, (Nat.lt_succ_self _), h.2.2⟩)) ?_
              refine mx_nil (fun w11 E17' H7 HS => ?_)
              have E17 := mG E17'
              have F41 := F40.new E17 (fun k h => by have h : k = b3 ∨ k = b4 := h; omega)
              have hz17 := E17.size
              obtain ⟨_, _, hBK11_3⟩ := H7 4 _ rfl
              obtain ⟨_, _, hBK11_4⟩ := H7 5 _ rfl
              have hI115 := (HS.1 115 _ rfl).2
              simp only at hI115
              have g115 := H7 115 _ rfl
              obtain ⟨sC, cC, TC, rfl, hTC, hTabC, hgC1⟩ := g115
              have hgC := fun k hk => (hgC1 k hk).1
              have tg8 : ∀ k, mtb sC TC k → w0.heap.size ≤ k := fun k hk => ((mtb_inr hgC) k hk).elim ((fun _ h => mtb_nil h) k) (fun h => by omega)
              have tn8_1 : ∀ k, mtb sC TC k → k ≠ b1 := fun k hk => ((mtb_inr hgC) k hk).elim ((fun _ h => mtb_nil h) k) (fun h => by have := (B1).lt; omega)
              have tn8_2 : ∀ k, mtb sC TC k → k ≠ b2 := fun k hk => ((mtb_inr hgC) k hk).elim ((fun _ h => mtb_nil h) k) (fun h => by have := (B2).lt; omega)
              have tn8_3 : ∀ k, mtb sC TC k → k ≠ b3 := fun k hk => ((mtb_inr hgC) k hk).elim ((fun _ h => mtb_nil h) k) (fun h => by have := (hBK11_3).lt; omega)
              have tn8_4 : ∀ k, mtb sC TC k → k ≠ b4 := fun k hk => ((mtb_inr hgC) k hk).elim ((fun _ h => mtb_nil h) k) (fun h => by have := (hBK11_4).lt; omega)
              have tn8_1010 : ∀ k, mtb sC TC k → k ≠ I10.1 := fun k hk => ((mtb_inr hgC) k hk).elim ((fun _ h => mtb_nil h) k) (fun h => by have := (Bs20).lt; omega)
              have tn8_1009 : ∀ k, mtb sC TC k → k ≠ I9.1 := fun k hk => ((mtb_inr hgC) k hk).elim ((fun _ h => mtb_nil h) k) (fun h => by have := (hB9).lt; omega)
              refine lx_value (want rfl) (as_slice rfl) ?_
              refine lx_value (want rfl) (as_int rfl) ?_
              refine lx_nil ?_
              refine wk_ret ?_
              refine retR4 Tryz.results44 (.cell rfl (run_loadVar_blk ag_24 sz_24 hBK11_3 rfl rfl)) (.cell rfl (run_loadVar_blk ag_36 sz_36 hBK11_4 rfl rfl)) (.tmp (t_slice rfl)) (.tmp (t_int rfl)) F41 ?_
              exact outD_ok hok (by rw [hD]) (by rw [hD]; exact hTC) hTabC hgC (by omega) (by rw [hD]; rfl) (by rw [hD]; rfl) (by rw [hD]; exact tl_nil)
      ·
        refine lx_value (want_if (j := 5) (d := 25) (x := false) (y := false) rfl rfl (by decide) rfl) (rn_not rfl) ?_
        refine lx_value (want rfl) (pick_f rfl rfl) ?_
        refine lx_nil ?_
        refine wk_cond_t rfl ?_
        refine wk_seq ?_
        refine wk_region ?_
        refine lx_value (want rfl) (rn_build0  (fun w => bd_24  w)) ?_
        refine lx_value (want rfl) (rn_build0  (fun w => bd_36  w)) ?_
        refine lx_set (want rfl) sz_24 rfl (t_agg rfl) rfl rfl rfl ((((B3.ext Eb4).ext E1).ext E2).ext E3) (Nat.le_of_ble_eq_true rfl) ?_
        intro w8 Es21 Bs21
        have F42 := F9.set Es21 (by omega)
        have hzs21 := Es21.size
        refine lx_set (want rfl) sz_36 rfl (t_agg rfl) rfl rfl rfl ((((B4.ext E1).ext E2).ext E3).ne Es21 (by omega)) (Nat.le_of_ble_eq_true rfl) ?_
        intro w9 Es22 Bs22
        have F43 := F42.set Es22 (by omega)
        have hzs22 := Es22.size
        refine lx_value (want rfl) (as_slice rfl) ?_
        refine lx_value (want rfl) (as_int rfl) ?_
        refine lx_nil ?_
        refine wk_ret ?_
        refine retR4 Tryz.results44 (.cell rfl (run_loadVar_blk ag_24 sz_24 (Bs21.ne Es22 (by omega)) rfl rfl)) (.cell rfl (run_loadVar_blk ag_36 sz_36 Bs22 rfl rfl)) (.tmp (t_slice rfl)) (.tmp (t_int rfl)) F43 ?_
        exact outD_args hok (args_v hkv)
    ·
      refine lx_value (want rfl) (rn_not rfl) ?_
      refine lx_value (want rfl) (mv_bool rfl) ?_
      refine lx_skip (want_if (j := 5) (d := 25) (x := false) (y := true) rfl rfl (by decide) rfl) ?_
      refine lx_skip (want_if (j := 5) (d := 25) (x := false) (y := true) rfl rfl (by decide) rfl) ?_
      refine lx_skip (want_if (j := 5) (d := 25) (x := false) (y := true) rfl rfl (by decide) rfl) ?_
      refine lx_skip (want_if (j := 5) (d := 25) (x := false) (y := true) rfl rfl (by decide) rfl) ?_
      refine lx_skip (want_if (j := 5) (d := 25) (x := false) (y := true) rfl rfl (by decide) rfl) ?_
      refine lx_value (want rfl) (pick_t rfl rfl) ?_
      refine lx_nil ?_
      refine wk_cond_t rfl ?_
      refine wk_seq ?_
      refine wk_region ?_
      refine lx_value (want rfl) (rn_build0  (fun w => bd_24  w)) ?_
      refine lx_value (want rfl) (rn_build0  (fun w => bd_36  w)) ?_
      refine lx_set (want rfl) sz_24 rfl (t_agg rfl) rfl rfl rfl (((B3.ext Eb4).ext E1).ext E2) (Nat.le_of_ble_eq_true rfl) ?_
      intro w7 Es23 Bs23
      have F44 := F8.set Es23 (by omega)
      have hzs23 := Es23.size
      refine lx_set (want rfl) sz_36 rfl (t_agg rfl) rfl rfl rfl (((B4.ext E1).ext E2).ne Es23 (by omega)) (Nat.le_of_ble_eq_true rfl) ?_
      intro w8 Es24 Bs24
      have F45 := F44.set Es24 (by omega)
      have hzs24 := Es24.size
      refine lx_value (want rfl) (as_slice rfl) ?_
      refine lx_value (want rfl) (as_int rfl) ?_
      refine lx_nil ?_
      refine wk_ret ?_
      refine retR4 Tryz.results44 (.cell rfl (run_loadVar_blk ag_24 sz_24 (Bs23.ne Es24 (by omega)) rfl rfl)) (.cell rfl (run_loadVar_blk ag_36 sz_36 Bs24 rfl rfl)) (.tmp (t_slice rfl)) (.tmp (t_int rfl)) F45 ?_
      exact outD_args hok (args_in (of_decide_eq_false hin))

end Go.Proofs.YtnhgfmbmfjmonaaGreatDoor

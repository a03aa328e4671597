/- What functions compute: takec, takeb, takea. -/
import Derived.Test.YtgnnegfnpgnbbaaGreatDoorHomesFacts
import Derived.Test.YtgnnegfnpgnbbaaGreatDoorHomesPre
import Derived.Test.YtgnnegfnpgnbbaaGreatDoorHomesWalk1
import Derived.Test.YtgnnegfnpgnbbaaGreatDoorHomesWalk12
import Derived.Test.YtgnnegfnpgnbbaaGreatDoorHomesWalk2
import Derived.Test.YtgnnegfnpgnbbaaGreatDoorHomesWalk3
import Derived.Test.YtgnnegfnpgnbbaaGreatDoorHomesWalk8
set_option maxRecDepth 100000
set_option linter.unusedVariables false
set_option linter.unusedSimpArgs false
namespace Go.Proofs.YtgnnegfnpgnbbaaGreatDoor
open Go Go.RowKit Go.Mix Go.Eng
set_option maxHeartbeats 2000000 in
set_option maxRecDepth 100000 in
theorem takec_ct (Z : Nat → Prop) (SS : Sto) (sa : Option Addr) (ca : Nat) (sb : Option Addr) (cb : Nat) (F : Nat → Prop) (hok : OkS SS) (be rm : Nat) (tc ta : Int) (v : Vl) (hT : TokB SS (tc, ta, 1, v)) (hp2 : portN (codeAt SS ta) = 2) (hn6 : (codeAt SS ta).op ≠ 6) (hFZ : ∀ k, F k → ¬ Z k) (hZb50 : Z be) (lo : Nat) (hlob : lo ≤ be) (p0 : Vl) (e2 : Ent) (b1 o1 c1 b4 o4 c4 b2 o2 c2 : Nat) (s2x : Option Addr) (c2x : Nat) (G : Nat → Prop) (hrm : 1 ≤ rm) (hp0 : p0.1 ≠ 0) (hv0 : v.1 ≠ 0) (hc1 : 1 ≤ c1) (hlo1 : ∀ k, ob (some (⟨b1, o1, none⟩ : Addr)) k → lo ≤ k) (hlo4 : ∀ k, ob (some (⟨b4, o4, none⟩ : Addr)) k → lo ≤ k) (hGl : ∀ k, G k → lo ≤ k) (hZo1 : ∀ k, ob (some (⟨b1, o1, none⟩ : Addr)) k → Z k) (hZo4 : ∀ k, ob (some (⟨b4, o4, none⟩ : Addr)) k → Z k) (hn1 : ∀ k, ob (some (⟨b1, o1, none⟩ : Addr)) k → k ≠ be) (hn4 : ∀ k, ob (some (⟨b4, o4, none⟩ : Addr)) k → k ≠ be) (hs14 : ∀ k, ob (some (⟨b1, o1, none⟩ : Addr)) k → ob (some (⟨b4, o4, none⟩ : Addr)) k → False) (hZ2 : ¬ Z b2) (hGZ : ∀ k, G k → ¬ Z k) (w0 : World) (hS : StR F w0 SS sa ca sb cb) (hlow : lo ≤ w0.heap.size) (hB : Blk w0 be (elL (.slice sa SS.slots.length ca) (.slice sb SS.code.length cb) rm (some (⟨b1, o1, none⟩ : Addr)) 1 c1 (some (⟨b2, o2, none⟩ : Addr)) 1 c2 (.slice none 0 0)) 90) (hO1 : OwnS w0 55 3 (some (⟨b1, o1, none⟩ : Addr)) 1 c1 (enL (⟨tc, ta, [p0, (0, 0)]⟩ : Ent) (some (⟨b4, o4, none⟩ : Addr)) c4)) (hO4 : OwnS w0 48 2 (some (⟨b4, o4, none⟩ : Addr)) 2 c4 (([p0, (0, 0)] : List Vl).flatMap vlC)) (hcx2 : Cs w0 b2 o2 (enL e2 s2x c2x)) (hv2 : VlS G w0 s2x e2.ports) :
  CT Tryz.prog 28 [.pointer (some ⟨be, 0, none⟩), .agg #[.int .i64 tc, .int .i64 ta, .int .i64 ((1 : Nat) : Int), .int .u8 v.1, .int .i64 v.2]] w0 Z (fun u w => ∃ sR cR s c s3 c3, u = .tuple #[.slice sR 1 cR, .int .i64 0] ∧ Blk w be (elL (.slice sa SS.slots.length ca) (.slice sb SS.code.length cb) rm s 1 c s3 0 c3 (.slice none 0 0)) 90 ∧ EnS (fun k => lo ≤ k) w s [e2] ∧ EnS (fun k => lo ≤ k) w sR [⟨tc, ta, [p0, v]⟩]) := by
 have hlb := hB.lt
 have hpl : placeB SS ta = true := hT.plc
 obtain ⟨hat, hax⟩ := placeB_at hpl
 have hcl := smallI_len (smallS_code hok.sm)
 have hS0 := hS
 obtain ⟨bx, ox, hsx, hFx, so, co, hcx, hco⟩ := hS.code _ _ hax
 subst hsx
 have F0 := Fr.refl Z w0
 have zo1 : ∀ k, ob (some (⟨b1, o1, none⟩ : Addr)) k → Z k ∨ w0.heap.size ≤ k := fun k h => .inl (hZo1 k h)
 have zo4 : ∀ k, ob (some (⟨b4, o4, none⟩ : Addr)) k → Z k ∨ w0.heap.size ≤ k := fun k h => .inl (hZo4 k h)
 refine ct_body Tryz.func28 rfl Tryz.ntmps28 (Nat.le_of_ble_eq_true rfl) ?_
 refine wk_seq ?_
 refine wk_region ?_
 refine lx_new (want rfl) (rn_box (t_agg rfl)) ?_
 intro b21 w1 hb21 Eb21 B21 hlb21
 have F1 := F0.ext Eb21
 have hzb21 := Eb21.size
 have nb1 : ∀ k, ob (some (⟨b1, o1, none⟩ : Addr)) k → k ≠ b21 := fun k hk => by have := (hO1).lt hk; omega
 have nb2 : ∀ k, ob (some (⟨b4, o4, none⟩ : Addr)) k → k ≠ b21 := fun k hk => by have := (hO4).lt hk; omega
 refine lx_value (want rfl) (as_slice rfl) ?_
 refine lx_value (want rfl) (as_int rfl) ?_
 refine lx_nil ?_
 refine wk_seq ?_
 refine wk_seq ?_
 refine wk_mix 5 (fun _ => .none) (by kernel_rfl) (by kernel_rfl) (fun kS G hk => by cases hk) (fun kS s y G hk => by cases hk) ?_
 simp only [List.take_succ_cons, List.take_zero, List.take_nil, List.drop_succ_cons, List.drop_zero, List.drop_nil]
 refine mx_calm rfl (want rfl) (fun u1 eu1 fu1 => mv_pointer rfl) ?_
 refine mx_calm rfl (want rfl) (fun u2 eu2 fu2 => rn_nilCheck rfl) ?_
 refine mx_calm rfl (want rfl) (fun u3 eu3 fu3 => rn_fieldAddr fa_90_0 rfl) ?_
 refine mx_calm rfl (want rfl) (fun u4 eu4 fu4 => rn_loadBlk ag_80 sz_80 rfl ((hB.ext Eb21).ext ((ext_drawn _).trans' eu4)) rfl rfl) ?_
 refine mx_calm rfl (want rfl) (fun u5 eu5 fu5 => rn_loadBlk ag_51 sz_51 rfl (B21.ext ((ext_drawn _).trans' eu5)) rfl rfl) ?_
 refine mx_nil (fun w2 E1' H1 HS => ?_)
 have E1 := (ext_drawn _).trans' E1'
 have F2 := F1.ext E1
 have hz1 := E1.size
 refine lx_call (want rfl) (ent_func cf_39 (argsC (t_agg rfl) (argsC (t_agg rfl) args0))) (istok_ct SS sa ca _ cb F hok.sm (tc, ta, 1, v) hT w2 (hS0.fr F2 hFZ)) ?_
 rintro _ w3 E2 rfl
 have F3 := F2.ext E2
 have hz2 := E2.size
 refine lx_value (want rfl) (as_int rfl) ?_
 refine lx_nil ?_
 refine wk_seq ?_
 refine wk_region ?_
 refine lx_value (want rfl) (mv_int rfl) ?_
 refine lx_value (want rfl) (rn_neq rfl rfl) ?_
 refine lx_dec_f ((fun g => g rfl)) ?_
 refine lx_nil ?_
 refine wk_cond_f rfl ?_
 refine wk_skip ?_
 refine wk_seq ?_
 refine wk_mix 13 (fun kS => match kS with | 11 => .val (.int .i64 ((2 : Nat) : Int)) | 12 => .any (fun I v w => ∃ b, v = .pointer (some ⟨b, 0, none⟩) ∧ w3.heap.size ≤ b ∧ (I.1 ≤ b ∧ b < I.2) ∧ Blk w b [.int .i64 0, .int .i64 0] 23) | _ => .none) (by kernel_rfl) (by kernel_rfl) (by intro kS G hk; (try dsimp only at hk); (split at hk) <;> first | (cases hk; done) | (injection hk with hk; subst hk; exact ⟨by intro j hkj I v w w' hR hG; first | exact hG | (obtain ⟨b, h1, h2, hI, h3⟩ := hG; exact ⟨b, h1, h2, hI, h3.ext hR⟩), fun ⟨_, _, _, _, hs⟩ => by (try dsimp only at hs); split at hs <;> cases hs⟩)) (by intro kS s y G hk; (try dsimp only at hk); split at hk <;> cases hk) ?_
 simp only [List.take_succ_cons, List.take_zero, List.take_nil, List.drop_succ_cons, List.drop_zero, List.drop_nil]
 refine mx_calm rfl (want rfl) (fun u6 eu6 fu6 => rn_fieldAddr fa_51_0 rfl) ?_
 refine mx_calm rfl (want rfl) (fun u7 eu7 fu7 => rn_load1Blk ag_3 rfl (((B21.ext E1).ext E2).ext ((ext_drawn _).trans' eu7)) rfl) ?_
 refine mx_calm rfl (want rfl) (fun u8 eu8 fu8 => rn_fieldAddr fa_51_1 rfl) ?_
 refine mx_calm rfl (want rfl) (fun u9 eu9 fu9 => rn_load1Blk ag_3 rfl (((B21.ext E1).ext E2).ext ((ext_drawn _).trans' eu9)) rfl) ?_
 refine mx_calm rfl (want rfl) (fun u10 eu10 fu10 => rn_build2 (t_int rfl) (t_int rfl) (fun w => bd_23_0_1 _ _ w)) ?_
 refine mx_calm rfl (want rfl) (fun u11 eu11 fu11 => mv_pointer rfl) ?_
 refine mx_calm rfl (want rfl) (fun u12 eu12 fu12 => rn_nilCheck rfl) ?_
 refine mx_calm rfl (want rfl) (fun u13 eu13 fu13 => rn_fieldAddr fa_90_0 rfl) ?_
 refine mx_calm rfl (want rfl) (fun u14 eu14 fu14 => rn_loadBlk ag_80 sz_80 rfl ((((hB.ext Eb21).ext E1).ext E2).ext ((ext_drawn _).trans' eu14)) rfl rfl) ?_
 refine mx_calm rfl (want rfl) (fun u15 eu15 fu15 => rn_fieldAddr fa_51_1 rfl) ?_
 refine mx_calm rfl (want rfl) (fun u16 eu16 fu16 => rn_load1Blk ag_3 rfl (((B21.ext E1).ext E2).ext ((ext_drawn _).trans' eu16)) rfl) ?_
 refine mx_val rfl (want rfl) (fun u17 eu17 fu17 => do_call (ent_func cf_25 (argsC (t_agg rfl) (argsC (t_int rfl) args0))) (eports_ct SS sa ca _ cb F hok.sm _ hpl u17 (hS0.fr (F3.ext ((ext_drawn _).trans' eu17)) hFZ)) (fun _ _ E h => ⟨E, (by rw [h, hp2]; rfl)⟩)) ?_
 refine mx_any rfl rfl (want rfl) (fun u18 eu18 fu18 => (do_new2 (rn_alloc ze_23) (show _ ≤ _ from (((ext_drawn _).trans' eu18)).size)).mono (fun v w' h => ⟨h.1, h.2⟩)) (fun I7 v7 => ?_)
 refine mx_nil (fun w4 E3' H2 HS => ?_)
 have E3 := (ext_drawn _).trans' E3'
 have F4 := F3.ext E3
 have hz3 := E3.size
 have hI7 := (HS.1 7 _ rfl).2
 simp only at hI7
 have g7 := H2 7 _ rfl
 (try dsimp only at g7); obtain ⟨b87, hv7, hbb87, hib87, Bb87⟩ := g7; subst hv7; have hlbb87 := Bb87.lt
 have nb3 : ∀ k, ob (some (⟨b1, o1, none⟩ : Addr)) k → k ≠ b87 := fun k hk => by have := (hO1).lt hk; omega
 have nb4 : ∀ k, ob (some (⟨b4, o4, none⟩ : Addr)) k → k ≠ b87 := fun k hk => by have := (hO4).lt hk; omega
 refine lx_set (want rfl) sz_23 rfl (t_agg rfl) rfl rfl rfl Bb87 (Nat.le_of_ble_eq_true rfl) ?_
 intro w5 Es1 Bs1
 have F5 := F4.set Es1 (by omega)
 have hzs1 := Es1.size
 refine lx_value (want rfl) (as_int rfl) ?_
 refine lx_nil ?_
 refine wk_seq ?_
 refine wk_mix 8 (fun kS => match kS with | 5 => .any (fun I v w => ∃ b, v = .slice (some ⟨b, 0, none⟩) 2 2 ∧ w5.heap.size ≤ b ∧ (I.1 ≤ b ∧ b < I.2) ∧ Blk w b [.int .u8 0, .int .i64 0, .int .u8 0, .int .i64 0] 48) | 7 => .any (fun I v w => ∃ b, v = .pointer (some ⟨b, 0, none⟩) ∧ w5.heap.size ≤ b ∧ (I.1 ≤ b ∧ b < I.2) ∧ Blk w b [.int .i64 0, .int .i64 0, .slice none 0 0] 55) | _ => .none) (by kernel_rfl) (by kernel_rfl) (by intro kS G hk; (try dsimp only at hk); (split at hk) <;> first | (cases hk; done) | (injection hk with hk; subst hk; exact ⟨by intro j hkj I v w w' hR hG; first | exact hG | (obtain ⟨b, h1, h2, hI, h3⟩ := hG; exact ⟨b, h1, h2, hI, h3.ext hR⟩) | (obtain ⟨b, h1, h2, hI, h3⟩ := hG; exact ⟨b, h1, h2, hI, h3.ext hR⟩), fun ⟨_, _, _, _, hs⟩ => by (try dsimp only at hs); split at hs <;> cases hs⟩)) (by intro kS s y G hk; (try dsimp only at hk); split at hk <;> cases hk) ?_
 simp only [List.take_succ_cons, List.take_zero, List.take_nil, List.drop_succ_cons, List.drop_zero, List.drop_nil]
 refine mx_calm rfl (want rfl) (fun u19 eu19 fu19 => rn_fieldAddr fa_51_0 rfl) ?_
 refine mx_calm rfl (want rfl) (fun u20 eu20 fu20 => rn_load1Blk ag_3 rfl (((((B21.ext E1).ext E2).ext E3).ne Es1 (by omega)).ext ((ext_drawn _).trans' eu20)) rfl) ?_
 refine mx_calm rfl (want rfl) (fun u21 eu21 fu21 => rn_fieldAddr fa_51_1 rfl) ?_
 refine mx_calm rfl (want rfl) (fun u22 eu22 fu22 => rn_load1Blk ag_3 rfl (((((B21.ext E1).ext E2).ext E3).ne Es1 (by omega)).ext ((ext_drawn _).trans' eu22)) rfl) ?_
 refine mx_calm rfl (want rfl) (fun u23 eu23 fu23 => mv_int rfl) ?_
 refine mx_any rfl rfl (want rfl) (fun u24 eu24 fu24 => (do_newS2 (rn_makeSliceN (n := 2) Tryz.underlying53 ti_48 rfl (by decide) rfl rfl rfl (by decide)) (show _ ≤ _ from (((ext_drawn _).trans' eu24)).size)).mono (fun v w' h => ⟨h.1, h.2⟩)) (fun I39 v39 => ?_)
 refine mx_calm (v := .agg #[.int .i64 tc, .int .i64 ta, .slice (sOf v39) 2 (cOf v39)]) rfl (want rfl) (fun u25 eu25 fu25 => by obtain ⟨b39, rfl, _⟩ := fu25 39 _ rfl (show (39 : Nat) ∈ _ from by decide); exact rn_build3 (t_int rfl) (t_int rfl) (t_slice rfl) (fun w => bd_55_0_1_2 _ _ _ _ _ w)) ?_
 refine mx_any rfl rfl (want rfl) (fun u26 eu26 fu26 => (do_new2 (rn_alloc ze_55) (show _ ≤ _ from (((ext_drawn _).trans' eu26)).size)).mono (fun v w' h => ⟨h.1, h.2⟩)) (fun I9 v9 => ?_)
 refine mx_nil (fun w6 E4' H3 HS => ?_)
 have E4 := (ext_drawn _).trans' E4'
 have F6 := F5.ext E4
 have hz4 := E4.size
 have hI9 := (HS.1 9 _ rfl).2
 have hI39 := (HS.1 39 _ rfl).2
 have hX9_39 := HS.2 9 _ 39 _ rfl rfl (show (9 : Nat) ≠ 39 from by decide)
 simp only at hI9
 simp only at hI39
 simp only at hX9_39
 have g9 := H3 9 _ rfl
 (try dsimp only at g9); obtain ⟨b88, hv9, hbb88, hib88, Bb88⟩ := g9; subst hv9; have hlbb88 := Bb88.lt
 have nb5 : ∀ k, ob (some (⟨b1, o1, none⟩ : Addr)) k → k ≠ b88 := fun k hk => by have := (hO1).lt hk; omega
 have nb6 : ∀ k, ob (some (⟨b4, o4, none⟩ : Addr)) k → k ≠ b88 := fun k hk => by have := (hO4).lt hk; omega
 have g39 := H3 39 _ rfl
 (try dsimp only at g39); obtain ⟨b89, hv39, hbb89, hib89, Bb89⟩ := g39; subst hv39; have hlbb89 := Bb89.lt
 have nb7 : ∀ k, ob (some (⟨b1, o1, none⟩ : Addr)) k → k ≠ b89 := fun k hk => by have := (hO1).lt hk; omega
 have nb8 : ∀ k, ob (some (⟨b4, o4, none⟩ : Addr)) k → k ≠ b89 := fun k hk => by have := (hO4).lt hk; omega
 refine lx_set (want rfl) sz_55 rfl (t_agg rfl) rfl rfl rfl Bb88 (Nat.le_of_ble_eq_true rfl) ?_
 intro w7 Es2 Bs2
 have F7 := F6.set Es2 (by omega)
 have hzs2 := Es2.size
 refine lx_nil ?_
 refine wk_seq ?_
 refine wk_region ?_
 refine lx_value (want rfl) (rn_fieldAddr fa_55_2 rfl) ?_
 refine lx_value (want rfl) (rn_load1Blk ag_53 rfl Bs2 rfl) ?_
 refine lx_value (want rfl) (rn_fieldAddr fa_51_2 rfl) ?_
 refine lx_value (want rfl) (rn_load1Blk ag_3 rfl ((((((B21.ext E1).ext E2).ext E3).ne Es1 (by omega)).ext E4).ne Es2 (by omega)) rfl) ?_
 refine lx_value (want rfl) (rn_fieldAddr fa_51_3 rfl) ?_
 refine lx_value (want rfl) (rn_loadBlk ag_48 sz_48 rfl ((((((B21.ext E1).ext E2).ext E3).ne Es1 (by omega)).ext E4).ne Es2 (by omega)) rfl rfl) ?_
 refine lx_value (want rfl) (rn_index 1 Tryz.underlying53 sz_48 rfl rfl rfl (by decide)) ?_
 refine lx_set (want rfl) sz_48 rfl (t_agg rfl) rfl rfl rfl (Bb89.ne Es2 (by omega)) (Nat.le_of_ble_eq_true rfl) ?_
 intro w8 Es3 Bs3
 have F8 := F7.set Es3 (by omega)
 have hzs3 := Es3.size
 refine lx_nil ?_
 refine wk_seq ?_
 refine wk_seq ?_
 refine wk_mix 8 (fun _ => .none) (by kernel_rfl) (by kernel_rfl) (fun kS G hk => by cases hk) (fun kS s y G hk => by cases hk) ?_
 simp only [List.take_succ_cons, List.take_zero, List.take_nil, List.drop_succ_cons, List.drop_zero, List.drop_nil]
 refine mx_calm rfl (want rfl) (fun u27 eu27 fu27 => mv_pointer rfl) ?_
 refine mx_calm rfl (want rfl) (fun u28 eu28 fu28 => rn_nilCheck rfl) ?_
 refine mx_calm rfl (want rfl) (fun u29 eu29 fu29 => rn_fieldAddr fa_90_0 rfl) ?_
 refine mx_calm rfl (want rfl) (fun u30 eu30 fu30 => rn_fieldAddr fa_80_0 rfl) ?_
 refine mx_calm rfl (want rfl) (fun u31 eu31 fu31 => rn_fieldAddr fa_35_1 rfl) ?_
 refine mx_calm rfl (want rfl) (fun u32 eu32 fu32 => rn_load1Blk ag_33 rfl (((((((((hB.ext Eb21).ext E1).ext E2).ext E3).ne Es1 (by omega)).ext E4).ne Es2 (by omega)).ne Es3 (by omega)).ext ((ext_drawn _).trans' eu32)) rfl) ?_
 refine mx_calm rfl (want rfl) (fun u33 eu33 fu33 => rn_fieldAddr fa_51_1 rfl) ?_
 refine mx_calm rfl (want rfl) (fun u34 eu34 fu34 => rn_load1Blk ag_3 rfl ((((((((B21.ext E1).ext E2).ext E3).ne Es1 (by omega)).ext E4).ne Es2 (by omega)).ne Es3 (by omega)).ext ((ext_drawn _).trans' eu34)) rfl) ?_
 refine mx_nil (fun w9 E5' H4 HS => ?_)
 have E5 := (ext_drawn _).trans' E5'
 have F9 := F8.ext E5
 have hz5 := E5.size
 refine lx_value (want rfl) (rn_index ta.toNat Tryz.underlying33 sz_73 rfl rfl (by omega) (by omega)) ?_
 refine lx_value (want rfl) (rn_fieldAddr fa_73_0 rfl) ?_
 refine lx_value (want rfl) (rn_load1 ag_5 rfl (F9.cell (hFZ _ hFx) (hcx 0 _ rfl))) ?_
 refine lx_value (want rfl) (rn_eql rfl rfl) ?_
 refine lx_dec_f (hn6) ?_
 refine lx_nil ?_
 refine wk_cond_f rfl ?_
 refine wk_skip ?_
 refine wk_seq ?_
 refine wk_seq ?_
 refine wk_region ?_
 refine lx_value (want rfl) (mv_int rfl) ?_
 refine lx_value (want rfl) (rn_eql rfl rfl) ?_
 refine lx_dec_f ((by decide)) ?_
 refine lx_nil ?_
 refine wk_cond_f rfl ?_
 refine wk_skip ?_
 refine wk_seq ?_
 refine wk_region ?_
 refine lx_value (want rfl) (mv_pointer rfl) ?_
 refine lx_value (want rfl) (rn_loadBlk ag_23 sz_23 rfl ((((Bs1.ext E4).ne Es2 (by omega)).ne Es3 (by omega)).ext E5) rfl rfl) ?_
 refine lx_call (want rfl) (ent_func cf_41 (argsC (t_pointer rfl) (argsC (t_agg rfl) args0))) (find_ct be _ _ _ rm [(⟨tc, ta, [p0, (0, 0)]⟩ : Ent)] [e2] (some (⟨b1, o1, none⟩ : Addr)) c1 (some (⟨b2, o2, none⟩ : Addr)) c2 (fun _ => True) (tc, ta) (Nat.le_of_ble_eq_true rfl) (Nat.le_of_ble_eq_true rfl) w9 (((((((((hB.ext Eb21).ext E1).ext E2).ext E3).ne Es1 (by omega)).ext E4).ne Es2 (by omega)).ne Es3 (by omega)).ext E5) (en_one (((((((((hO1.ext Eb21).ext E1).ext E2).ext E3).ne Es1 (fun h => nb3 _ h rfl)).ext E4).ne Es2 (fun h => nb5 _ h rfl)).ne Es3 (fun h => nb7 _ h rfl)).ext E5) rfl (((((((((((hO4.ext Eb21).ext E1).ext E2).ext E3).ne Es1 (fun h => nb4 _ h rfl)).ext E4).ne Es2 (fun h => nb6 _ h rfl)).ne Es3 (fun h => nb8 _ h rfl)).ext E5)).sl (by decide) rfl (fun _ _ => rfl) (fun _ _ => trivial))) (en_cs (hcx2.fr F9 hZ2) (hv2.fr (vl_stab _) F9 hGZ))) ?_
 rintro vF w10 E6 hFR
 have F10 := F9.ext E6
 have hz6 := E6.size
 obtain rfl := find_one hFR (decide_eq_true ⟨rfl, rfl⟩)
 refine lx_value (want rfl) (mv_tuple rfl) ?_
 refine lx_value (want rfl) (rn_extract rfl rfl) ?_
 refine lx_value (want rfl) (rn_extract rfl rfl) ?_
 refine lx_value (want rfl) (as_pointer rfl) ?_
 refine lx_value (want rfl) (as_int rfl) ?_
 refine lx_nil ?_
 refine wk_seq ?_
 refine wk_seq ?_
 refine wk_region ?_
 refine lx_value (want rfl) (mv_int rfl) ?_
 refine lx_value (want rfl) (rn_lss rfl rfl) ?_
 refine lx_dec_f ((by decide)) ?_
 refine lx_nil ?_
 refine wk_cond_f rfl ?_
 refine wk_skip ?_
 refine wk_seq ?_
 refine wk_region ?_
 refine lx_value (want rfl) (mv_pointer rfl) ?_
 refine lx_value (want rfl) (rn_nilCheck rfl) ?_
 refine lx_value (want rfl) (rn_load1Blk ag_39 rfl ((((((((((hB.ext Eb21).ext E1).ext E2).ext E3).ne Es1 (by omega)).ext E4).ne Es2 (by omega)).ne Es3 (by omega)).ext E5).ext E6) rfl) ?_
 refine lx_value (want rfl) (mv_int rfl) ?_
 refine lx_value (want rfl) (rn_index 0 Tryz.underlying39 sz_55 rfl rfl rfl (by decide)) ?_
 refine lx_value (want rfl) (rn_loadN ag_55 sz_55 rfl rfl (own_cs ((((((((((hO1.ext Eb21).ext E1).ext E2).ext E3).ne Es1 (fun h => nb3 _ h rfl)).ext E4).ne Es2 (fun h => nb5 _ h rfl)).ne Es3 (fun h => nb7 _ h rfl)).ext E5).ext E6))) ?_
 refine lx_new (want rfl) (rn_alloc ze_55) ?_
 intro b22 w11 hb22 Eb22 B22 hlb22
 have F11 := F10.ext Eb22
 have hzb22 := Eb22.size
 have nb9 : ∀ k, ob (some (⟨b1, o1, none⟩ : Addr)) k → k ≠ b22 := fun k hk => by have := (hO1).lt hk; omega
 have nb10 : ∀ k, ob (some (⟨b4, o4, none⟩ : Addr)) k → k ≠ b22 := fun k hk => by have := (hO4).lt hk; omega
 refine lx_set (want rfl) sz_55 rfl (t_agg rfl) rfl rfl rfl B22 (Nat.le_of_ble_eq_true rfl) ?_
 intro w12 Es4 Bs4
 have F12 := F11.set Es4 (by omega)
 have hzs4 := Es4.size
 refine lx_nil ?_
 refine wk_seq ?_
 refine wk_seq ?_
 refine wk_region ?_
 refine lx_value (want rfl) (rn_fieldAddr fa_55_2 rfl) ?_
 refine lx_value (want rfl) (rn_load1Blk ag_53 rfl Bs4 rfl) ?_
 refine lx_value (want rfl) (rn_fieldAddr fa_51_2 rfl) ?_
 refine lx_value (want rfl) (rn_load1Blk ag_3 rfl (((((((((((B21.ext E1).ext E2).ext E3).ne Es1 (by omega)).ext E4).ne Es2 (by omega)).ne Es3 (by omega)).ext E5).ext E6).ext Eb22).ne Es4 (by omega)) rfl) ?_
 refine lx_value (want rfl) (rn_index 1 Tryz.underlying53 sz_48 rfl rfl rfl (Nat.le_of_ble_eq_true rfl)) ?_
 refine lx_value (want rfl) (rn_load2 ag_48 sz_48 rfl ((vl_fl ((((((((((((hO4.ext Eb21).ext E1).ext E2).ext E3).ne Es1 (fun h => nb4 _ h rfl)).ext E4).ne Es2 (fun h => nb6 _ h rfl)).ne Es3 (fun h => nb8 _ h rfl)).ext E5).ext E6).ext Eb22).ne Es4 (fun h => nb10 _ h rfl)) (i := 1) (v := (0, 0)) rfl) 0 _ rfl) ((vl_fl ((((((((((((hO4.ext Eb21).ext E1).ext E2).ext E3).ne Es1 (fun h => nb4 _ h rfl)).ext E4).ne Es2 (fun h => nb6 _ h rfl)).ne Es3 (fun h => nb8 _ h rfl)).ext E5).ext E6).ext Eb22).ne Es4 (fun h => nb10 _ h rfl)) (i := 1) (v := (0, 0)) rfl) 1 _ rfl)) ?_
 refine lx_call (want rfl) (ent_func cf_43 (argsC (t_agg rfl) args0)) (ishole_ct _ w12) ?_
 rintro _ w13 E7 rfl
 have F13 := F12.ext E7
 have hz7 := E7.size
 refine lx_b_t (rfl) ?_
 refine lx_value (want rfl) (rn_not rfl) ?_
 refine lx_nil ?_
 refine wk_cond_f rfl ?_
 refine wk_skip ?_
 refine wk_seq ?_
 refine wk_region ?_
 refine lx_value (want rfl) (rn_fieldAddr fa_55_2 rfl) ?_
 refine lx_value (want rfl) (rn_load1Blk ag_53 rfl (Bs4.ext E7) rfl) ?_
 refine lx_value (want rfl) (rn_fieldAddr fa_51_2 rfl) ?_
 refine lx_value (want rfl) (rn_load1Blk ag_3 rfl ((((((((((((B21.ext E1).ext E2).ext E3).ne Es1 (by omega)).ext E4).ne Es2 (by omega)).ne Es3 (by omega)).ext E5).ext E6).ext Eb22).ne Es4 (by omega)).ext E7) rfl) ?_
 refine lx_value (want rfl) (rn_fieldAddr fa_51_3 rfl) ?_
 refine lx_value (want rfl) (rn_loadBlk ag_48 sz_48 rfl ((((((((((((B21.ext E1).ext E2).ext E3).ne Es1 (by omega)).ext E4).ne Es2 (by omega)).ne Es3 (by omega)).ext E5).ext E6).ext Eb22).ne Es4 (by omega)).ext E7) rfl rfl) ?_
 refine lx_value (want rfl) (rn_index 1 Tryz.underlying53 sz_48 rfl rfl rfl (Nat.le_of_ble_eq_true rfl)) ?_
 have hOw1 := (((((((((((((hO4.ext Eb21).ext E1).ext E2).ext E3).ne Es1 (fun h => nb4 _ h rfl)).ext E4).ne Es2 (fun h => nb6 _ h rfl)).ne Es3 (fun h => nb8 _ h rfl)).ext E5).ext E6).ext Eb22).ne Es4 (fun h => nb10 _ h rfl)).ext E7)
 refine lx_owncell (j := 1 * 2) (want rfl) sz_48 rfl (t_agg rfl) rfl rfl rfl hOw1 (by decide) ?_
 intro w14 E8' HO1
 have E8 : Fr (ob (some (⟨b4, o4, none⟩ : Addr))) _ _ := E8'.mono (fun i _ hi => ⟨_, _, by subst hi; rfl⟩)
 have F14 := F13.new' E8 zo4
 have hz8 := E8.size
 have hN1 : OwnS _ _ _ _ _ _ ((([p0, v] : List Vl).flatMap vlC)) := HO1
 refine lx_nil ?_
 refine wk_seq ?_
 refine wk_seq ?_
 refine wk_region ?_
 refine lx_value (want rfl) (rn_fieldAddr fa_55_2 rfl) ?_
 refine lx_value (want rfl) (rn_load1Blk ag_53 rfl ((Bs4.ext E7).fr E8 (fun h => nb10 _ h rfl)) rfl) ?_
 refine lx_call (want rfl) (ent_func cf_44 (argsC (t_slice rfl) args0)) (holes_ct [p0, v] (some (⟨b4, o4, none⟩ : Addr)) c4 (fun _ => True) (Nat.le_of_ble_eq_true rfl) w14 ((hN1).sl (by decide) rfl (fun _ _ => rfl) (fun _ _ => trivial))) ?_
 rintro _ w15 E9 rfl
 have F15 := F14.ext E9
 have hz9 := E9.size
 refine lx_value (want rfl) (rn_gtr rfl rfl) ?_
 refine lx_dec_f ((by rw [holes_2 hp0 hv0]; decide)) ?_
 refine lx_nil ?_
 refine wk_cond_f rfl ?_
 refine wk_skip ?_
 refine wk_seq ?_
 refine wk_region ?_
 refine lx_value (want rfl) (mv_pointer rfl) ?_
 refine lx_value (want rfl) (mv_pointer rfl) ?_
 refine lx_value (want rfl) (rn_nilCheck rfl) ?_
 refine lx_value (want rfl) (rn_load1Blk ag_39 rfl (((((((((((((((hB.ext Eb21).ext E1).ext E2).ext E3).ne Es1 (by omega)).ext E4).ne Es2 (by omega)).ne Es3 (by omega)).ext E5).ext E6).ext Eb22).ne Es4 (by omega)).ext E7).fr E8 (fun h => hn4 _ h rfl)).ext E9) rfl) ?_
 refine lx_value (want rfl) (mv_int rfl) ?_
 refine lx_value (want rfl) (mv_int rfl) ?_
 refine lx_value (want rfl) (rn_add rfl rfl (by omega)) ?_
 refine lx_call (want rfl) (ent_func cf_45 (argsC (t_slice rfl) (argsC (t_int rfl) (argsC (t_int rfl) args0)))) (delete_ct (fun k => ob (some (⟨b1, o1, none⟩ : Addr)) k) b1 o1 c1 _ (fun k h => h) hc1 w15 (((((((((((((((hO1.ext Eb21).ext E1).ext E2).ext E3).ne Es1 (fun h => nb3 _ h rfl)).ext E4).ne Es2 (fun h => nb5 _ h rfl)).ne Es3 (fun h => nb7 _ h rfl)).ext E5).ext E6).ext Eb22).ne Es4 (fun h => nb9 _ h rfl)).ext E7).fr E8 (fun k h1 h2 => (fun k h1 h2 => hs14 k h2 h1) k h2 h1)).ext E9)) ?_
 rintro _ w16 E10 ⟨rfl, hOD⟩
 have F16 := F15.new' E10 zo1
 have hz10 := E10.size
 refine lx_value (want rfl) (rn_nilCheck rfl) ?_
 refine lx_set (want rfl) sz_39 rfl (t_slice rfl) rfl rfl rfl ((((((((((((((((hB.ext Eb21).ext E1).ext E2).ext E3).ne Es1 (by omega)).ext E4).ne Es2 (by omega)).ne Es3 (by omega)).ext E5).ext E6).ext Eb22).ne Es4 (by omega)).ext E7).fr E8 (fun h => hn4 _ h rfl)).ext E9).fr E10 (fun h => hn1 _ h rfl)) (Nat.le_of_ble_eq_true rfl) ?_
 intro w17 Es5 Bs5
 have F17 := F16.new' Es5 (fun k h => by have h : k = be := h; rw [h]; exact (.inl hZb50))
 have hzs5 := Es5.size
 refine lx_nil ?_
 refine wk_seq ?_
 refine wk_region ?_
 refine lx_value (want rfl) (mv_pointer rfl) ?_
 refine lx_call (want rfl) (ent_func cf_46 (argsC (t_pointer rfl) args0)) (refill_ct (fun k => k = be ∨ ob (some (⟨b1, o1, none⟩ : Addr)) k) be _ _ _ rm _ c1 _ c2 (fun _ => True) e2 s2x c2x (.inl rfl) (fun k h => .inr h) hn1 hrm b2 o2 rfl (fun h => hZ2 (h.elim (fun e => e ▸ hZb50) (hZo1 _))) w17 Bs5 (hOD.ne Es5 (fun h => hn1 _ h rfl)) (hcx2.fr F17 hZ2)) ?_
 rintro _ w18 E11 ⟨sN, cN, s3, c3, hBN, hON, hgN⟩
 have F18 := F17.new' E11 (fun kq => (fun h => h.elim (fun h => by rw [h]; exact (.inl hZb50)) (fun h => (zo1 _) h)))
 have hz11 := E11.size
 refine lx_nil ?_
 refine wk_seq ?_
 refine wk_region ?_
 refine lx_value (want rfl) (rn_loadBlk ag_55 sz_55 rfl ((((((Bs4.ext E7).fr E8 (fun h => nb10 _ h rfl)).ext E9).fr E10 (fun h => nb9 _ h rfl)).ne Es5 (by omega)).fr E11 (fun h => h.elim (fun h => absurd h (by omega)) (fun h => (fun h => nb9 _ h rfl) h))) rfl rfl) ?_
 refine lx_newS (want rfl) (rn_bslice (xs := [.tmp 132]) Tryz.underlying39 sz_55 ze_55 rfl (argsC (t_agg rfl) args0) (CL.cons rfl rfl CL.nil) rfl (Nat.le_of_ble_eq_true rfl)) ?_
 intro b23 w19 hb23 Eb23 B23 hlb23
 have F19 := F18.ext Eb23
 have hzb23 := Eb23.size
 have nb11 : ∀ k, ob (some (⟨b1, o1, none⟩ : Addr)) k → k ≠ b23 := fun k hk => by have := (hOD).lt hk; omega
 have nb12 : ∀ k, ob (some (⟨b4, o4, none⟩ : Addr)) k → k ≠ b23 := fun k hk => by have := (hN1).lt hk; omega
 refine lx_value (want rfl) (as_slice rfl) ?_
 refine lx_value (want rfl) (as_int rfl) ?_
 refine lx_nil ?_
 refine wk_ret ?_
 refine retR2 Tryz.results28 (.tmp (t_slice rfl)) (.tmp (t_int rfl)) F19 ?_
 exact ⟨_, _, sN, cN, s3, c3, rfl, hBN.ext (Fr.ext (Fr.refl no w18) Eb23), en_oneG (hON.ext (Fr.ext (Fr.refl no w18) Eb23)) rfl (hv2.fr (vl_stab _) F19 hGZ) (fun k hk => (hgN k hk).elim (hlo1 k) (fun h => by omega)) hGl, en_csG (H := fun k => lo ≤ k) (blk_cs B23) (((((((hN1.ext E9).fr E10 (fun k h1 h2 => hs14 k h2 h1)).ne Es5 (fun h => hn4 _ h rfl)).fr E11 (fun k h1 => (fun h => h.elim (fun h => hn4 _ h1 h) (fun h => (fun h => (fun k h1 h2 => hs14 k h2 h1) _ h1 h) h)))).ext Eb23)).sl (by decide) rfl (fun _ _ => rfl) (fun _ h => h)) (show lo ≤ _ by omega) hlo4⟩

set_option maxHeartbeats 2000000 in
set_option maxRecDepth 100000 in
theorem takeb_ct (Z : Nat → Prop) (SS : Sto) (sa : Option Addr) (ca : Nat) (sb : Option Addr) (cb : Nat) (F : Nat → Prop) (hok : OkS SS) (be rm : Nat) (tc ta : Int) (v : Vl) (hT : TokB SS (tc, ta, 1, v)) (hp2 : portN (codeAt SS ta) = 2) (hn6 : (codeAt SS ta).op ≠ 6) (hFZ : ∀ k, F k → ¬ Z k) (hZb50 : Z be) (lo : Nat) (hlob : lo ≤ be) (e1 : Ent) (G : Nat → Prop) (s1 : Option Addr) (c1 : Nat) (s2 : Option Addr) (c2 : Nat) (hrm : rm ≤ 1) (hq1 : atP (tc, ta) e1 = false) (hlo2 : ∀ k, ob s2 k → lo ≤ k) (hGl : ∀ k, G k → lo ≤ k) (hZo2 : ∀ k, ob s2 k → Z k) (hn2 : ∀ k, ob s2 k → k ≠ be) (w0 : World) (hS : StR F w0 SS sa ca sb cb) (hlow : lo ≤ w0.heap.size) (hGZ : ∀ k, G k → k ≠ be ∧ ¬ ob s2 k ∧ k < w0.heap.size) (hB : Blk w0 be (elL (.slice sa SS.slots.length ca) (.slice sb SS.code.length cb) rm s1 1 c1 s2 0 c2 (.slice none 0 0)) 90) (h1 : EnS G w0 s1 [e1]) (hO2 : OwnS w0 55 3 s2 0 c2 []) :
  CT Tryz.prog 28 [.pointer (some ⟨be, 0, none⟩), .agg #[.int .i64 tc, .int .i64 ta, .int .i64 ((1 : Nat) : Int), .int .u8 v.1, .int .i64 v.2]] w0 Z (fun u w => u = .tuple #[.slice none 0 0, .int .i64 0] ∧ ∃ s c, Blk w be (elL (.slice sa SS.slots.length ca) (.slice sb SS.code.length cb) rm s1 1 c1 s 1 c (.slice none 0 0)) 90 ∧ EnS (fun k => lo ≤ k) w s1 [e1] ∧ EnS (fun k => lo ≤ k) w s [⟨tc, ta, [(0, 0), v]⟩]) := by
 have hlb := hB.lt
 have hpl : placeB SS ta = true := hT.plc
 obtain ⟨hat, hax⟩ := placeB_at hpl
 have hcl := smallI_len (smallS_code hok.sm)
 have hS0 := hS
 obtain ⟨bx, ox, hsx, hFx, so, co, hcx, hco⟩ := hS.code _ _ hax
 subst hsx
 have F0 := Fr.refl Z w0
 have zo2 : ∀ k, ob s2 k → Z k ∨ w0.heap.size ≤ k := fun k h => .inl (hZo2 k h)
 refine ct_body Tryz.func28 rfl Tryz.ntmps28 (Nat.le_of_ble_eq_true rfl) ?_
 refine wk_seq ?_
 refine wk_region ?_
 refine lx_new (want rfl) (rn_box (t_agg rfl)) ?_
 intro b21 w1 hb21 Eb21 B21 hlb21
 have F1 := F0.ext Eb21
 have hzb21 := Eb21.size
 have nb1 : ∀ k, ob s2 k → k ≠ b21 := fun k hk => by have := (hO2).lt hk; omega
 refine lx_value (want rfl) (as_slice rfl) ?_
 refine lx_value (want rfl) (as_int rfl) ?_
 refine lx_nil ?_
 refine wk_seq ?_
 refine wk_seq ?_
 refine wk_mix 5 (fun _ => .none) (by kernel_rfl) (by kernel_rfl) (fun kS G hk => by cases hk) (fun kS s y G hk => by cases hk) ?_
 simp only [List.take_succ_cons, List.take_zero, List.take_nil, List.drop_succ_cons, List.drop_zero, List.drop_nil]
 refine mx_calm rfl (want rfl) (fun u1 eu1 fu1 => mv_pointer rfl) ?_
 refine mx_calm rfl (want rfl) (fun u2 eu2 fu2 => rn_nilCheck rfl) ?_
 refine mx_calm rfl (want rfl) (fun u3 eu3 fu3 => rn_fieldAddr fa_90_0 rfl) ?_
 refine mx_calm rfl (want rfl) (fun u4 eu4 fu4 => rn_loadBlk ag_80 sz_80 rfl ((hB.ext Eb21).ext ((ext_drawn _).trans' eu4)) rfl rfl) ?_
 refine mx_calm rfl (want rfl) (fun u5 eu5 fu5 => rn_loadBlk ag_51 sz_51 rfl (B21.ext ((ext_drawn _).trans' eu5)) rfl rfl) ?_
 refine mx_nil (fun w2 E1' H1 HS => ?_)
 have E1 := (ext_drawn _).trans' E1'
 have F2 := F1.ext E1
 have hz1 := E1.size
 refine lx_call (want rfl) (ent_func cf_39 (argsC (t_agg rfl) (argsC (t_agg rfl) args0))) (istok_ct SS sa ca _ cb F hok.sm (tc, ta, 1, v) hT w2 (hS0.fr F2 hFZ)) ?_
 rintro _ w3 E2 rfl
 have F3 := F2.ext E2
 have hz2 := E2.size
 refine lx_value (want rfl) (as_int rfl) ?_
 refine lx_nil ?_
 refine wk_seq ?_
 refine wk_region ?_
 refine lx_value (want rfl) (mv_int rfl) ?_
 refine lx_value (want rfl) (rn_neq rfl rfl) ?_
 refine lx_dec_f ((fun g => g rfl)) ?_
 refine lx_nil ?_
 refine wk_cond_f rfl ?_
 refine wk_skip ?_
 refine wk_seq ?_
 refine wk_mix 13 (fun kS => match kS with | 11 => .val (.int .i64 ((2 : Nat) : Int)) | 12 => .any (fun I v w => ∃ b, v = .pointer (some ⟨b, 0, none⟩) ∧ w3.heap.size ≤ b ∧ (I.1 ≤ b ∧ b < I.2) ∧ Blk w b [.int .i64 0, .int .i64 0] 23) | _ => .none) (by kernel_rfl) (by kernel_rfl) (by intro kS G hk; (try dsimp only at hk); (split at hk) <;> first | (cases hk; done) | (injection hk with hk; subst hk; exact ⟨by intro j hkj I v w w' hR hG; first | exact hG | (obtain ⟨b, h1, h2, hI, h3⟩ := hG; exact ⟨b, h1, h2, hI, h3.ext hR⟩), fun ⟨_, _, _, _, hs⟩ => by (try dsimp only at hs); split at hs <;> cases hs⟩)) (by intro kS s y G hk; (try dsimp only at hk); split at hk <;> cases hk) ?_
 simp only [List.take_succ_cons, List.take_zero, List.take_nil, List.drop_succ_cons, List.drop_zero, List.drop_nil]
 refine mx_calm rfl (want rfl) (fun u6 eu6 fu6 => rn_fieldAddr fa_51_0 rfl) ?_
 refine mx_calm rfl (want rfl) (fun u7 eu7 fu7 => rn_load1Blk ag_3 rfl (((B21.ext E1).ext E2).ext ((ext_drawn _).trans' eu7)) rfl) ?_
 refine mx_calm rfl (want rfl) (fun u8 eu8 fu8 => rn_fieldAddr fa_51_1 rfl) ?_
 refine mx_calm rfl (want rfl) (fun u9 eu9 fu9 => rn_load1Blk ag_3 rfl (((B21.ext E1).ext E2).ext ((ext_drawn _).trans' eu9)) rfl) ?_
 refine mx_calm rfl (want rfl) (fun u10 eu10 fu10 => rn_build2 (t_int rfl) (t_int rfl) (fun w => bd_23_0_1 _ _ w)) ?_
 refine mx_calm rfl (want rfl) (fun u11 eu11 fu11 => mv_pointer rfl) ?_
 refine mx_calm rfl (want rfl) (fun u12 eu12 fu12 => rn_nilCheck rfl) ?_
 refine mx_calm rfl (want rfl) (fun u13 eu13 fu13 => rn_fieldAddr fa_90_0 rfl) ?_
 refine mx_calm rfl (want rfl) (fun u14 eu14 fu14 => rn_loadBlk ag_80 sz_80 rfl ((((hB.ext Eb21).ext E1).ext E2).ext ((ext_drawn _).trans' eu14)) rfl rfl) ?_
 refine mx_calm rfl (want rfl) (fun u15 eu15 fu15 => rn_fieldAddr fa_51_1 rfl) ?_
 refine mx_calm rfl (want rfl) (fun u16 eu16 fu16 => rn_load1Blk ag_3 rfl (((B21.ext E1).ext E2).ext ((ext_drawn _).trans' eu16)) rfl) ?_
 refine mx_val rfl (want rfl) (fun u17 eu17 fu17 => do_call (ent_func cf_25 (argsC (t_agg rfl) (argsC (t_int rfl) args0))) (eports_ct SS sa ca _ cb F hok.sm _ hpl u17 (hS0.fr (F3.ext ((ext_drawn _).trans' eu17)) hFZ)) (fun _ _ E h => ⟨E, (by rw [h, hp2]; rfl)⟩)) ?_
 refine mx_any rfl rfl (want rfl) (fun u18 eu18 fu18 => (do_new2 (rn_alloc ze_23) (show _ ≤ _ from (((ext_drawn _).trans' eu18)).size)).mono (fun v w' h => ⟨h.1, h.2⟩)) (fun I7 v7 => ?_)
 refine mx_nil (fun w4 E3' H2 HS => ?_)
 have E3 := (ext_drawn _).trans' E3'
 have F4 := F3.ext E3
 have hz3 := E3.size
 have hI7 := (HS.1 7 _ rfl).2
 simp only at hI7
 have g7 := H2 7 _ rfl
 (try dsimp only at g7); obtain ⟨b87, hv7, hbb87, hib87, Bb87⟩ := g7; subst hv7; have hlbb87 := Bb87.lt
 have nb2 : ∀ k, ob s2 k → k ≠ b87 := fun k hk => by have := (hO2).lt hk; omega
 refine lx_set (want rfl) sz_23 rfl (t_agg rfl) rfl rfl rfl Bb87 (Nat.le_of_ble_eq_true rfl) ?_
 intro w5 Es1 Bs1
 have F5 := F4.set Es1 (by omega)
 have hzs1 := Es1.size
 refine lx_value (want rfl) (as_int rfl) ?_
 refine lx_nil ?_
 refine wk_seq ?_
 refine wk_mix 8 (fun kS => match kS with | 5 => .any (fun I v w => ∃ b, v = .slice (some ⟨b, 0, none⟩) 2 2 ∧ w5.heap.size ≤ b ∧ (I.1 ≤ b ∧ b < I.2) ∧ Blk w b [.int .u8 0, .int .i64 0, .int .u8 0, .int .i64 0] 48) | 7 => .any (fun I v w => ∃ b, v = .pointer (some ⟨b, 0, none⟩) ∧ w5.heap.size ≤ b ∧ (I.1 ≤ b ∧ b < I.2) ∧ Blk w b [.int .i64 0, .int .i64 0, .slice none 0 0] 55) | _ => .none) (by kernel_rfl) (by kernel_rfl) (by intro kS G hk; (try dsimp only at hk); (split at hk) <;> first | (cases hk; done) | (injection hk with hk; subst hk; exact ⟨by intro j hkj I v w w' hR hG; first | exact hG | (obtain ⟨b, h1, h2, hI, h3⟩ := hG; exact ⟨b, h1, h2, hI, h3.ext hR⟩) | (obtain ⟨b, h1, h2, hI, h3⟩ := hG; exact ⟨b, h1, h2, hI, h3.ext hR⟩), fun ⟨_, _, _, _, hs⟩ => by (try dsimp only at hs); split at hs <;> cases hs⟩)) (by intro kS s y G hk; (try dsimp only at hk); split at hk <;> cases hk) ?_
 simp only [List.take_succ_cons, List.take_zero, List.take_nil, List.drop_succ_cons, List.drop_zero, List.drop_nil]
 refine mx_calm rfl (want rfl) (fun u19 eu19 fu19 => rn_fieldAddr fa_51_0 rfl) ?_
 refine mx_calm rfl (want rfl) (fun u20 eu20 fu20 => rn_load1Blk ag_3 rfl (((((B21.ext E1).ext E2).ext E3).ne Es1 (by omega)).ext ((ext_drawn _).trans' eu20)) rfl) ?_
 refine mx_calm rfl (want rfl) (fun u21 eu21 fu21 => rn_fieldAddr fa_51_1 rfl) ?_
 refine mx_calm rfl (want rfl) (fun u22 eu22 fu22 => rn_load1Blk ag_3 rfl (((((B21.ext E1).ext E2).ext E3).ne Es1 (by omega)).ext ((ext_drawn _).trans' eu22)) rfl) ?_
 refine mx_calm rfl (want rfl) (fun u23 eu23 fu23 => mv_int rfl) ?_
 refine mx_any rfl rfl (want rfl) (fun u24 eu24 fu24 => (do_newS2 (rn_makeSliceN (n := 2) Tryz.underlying53 ti_48 rfl (by decide) rfl rfl rfl (by decide)) (show _ ≤ _ from (((ext_drawn _).trans' eu24)).size)).mono (fun v w' h => ⟨h.1, h.2⟩)) (fun I39 v39 => ?_)
 refine mx_calm (v := .agg #[.int .i64 tc, .int .i64 ta, .slice (sOf v39) 2 (cOf v39)]) rfl (want rfl) (fun u25 eu25 fu25 => by obtain ⟨b39, rfl, _⟩ := fu25 39 _ rfl (show (39 : Nat) ∈ _ from by decide); exact rn_build3 (t_int rfl) (t_int rfl) (t_slice rfl) (fun w => bd_55_0_1_2 _ _ _ _ _ w)) ?_
 refine mx_any rfl rfl (want rfl) (fun u26 eu26 fu26 => (do_new2 (rn_alloc ze_55) (show _ ≤ _ from (((ext_drawn _).trans' eu26)).size)).mono (fun v w' h => ⟨h.1, h.2⟩)) (fun I9 v9 => ?_)
 refine mx_nil (fun w6 E4' H3 HS => ?_)
 have E4 := (ext_drawn _).trans' E4'
 have F6 := F5.ext E4
 have hz4 := E4.size
 have hI9 := (HS.1 9 _ rfl).2
 have hI39 := (HS.1 39 _ rfl).2
 have hX9_39 := HS.2 9 _ 39 _ rfl rfl (show (9 : Nat) ≠ 39 from by decide)
 simp only at hI9
 simp only at hI39
 simp only at hX9_39
 have g9 := H3 9 _ rfl
 (try dsimp only at g9); obtain ⟨b88, hv9, hbb88, hib88, Bb88⟩ := g9; subst hv9; have hlbb88 := Bb88.lt
 have nb3 : ∀ k, ob s2 k → k ≠ b88 := fun k hk => by have := (hO2).lt hk; omega
 have g39 := H3 39 _ rfl
 (try dsimp only at g39); obtain ⟨b89, hv39, hbb89, hib89, Bb89⟩ := g39; subst hv39; have hlbb89 := Bb89.lt
 have nb4 : ∀ k, ob s2 k → k ≠ b89 := fun k hk => by have := (hO2).lt hk; omega
 refine lx_set (want rfl) sz_55 rfl (t_agg rfl) rfl rfl rfl Bb88 (Nat.le_of_ble_eq_true rfl) ?_
 intro w7 Es2 Bs2
 have F7 := F6.set Es2 (by omega)
 have hzs2 := Es2.size
 refine lx_nil ?_
 refine wk_seq ?_
 refine wk_region ?_
 refine lx_value (want rfl) (rn_fieldAddr fa_55_2 rfl) ?_
 refine lx_value (want rfl) (rn_load1Blk ag_53 rfl Bs2 rfl) ?_
 refine lx_value (want rfl) (rn_fieldAddr fa_51_2 rfl) ?_
 refine lx_value (want rfl) (rn_load1Blk ag_3 rfl ((((((B21.ext E1).ext E2).ext E3).ne Es1 (by omega)).ext E4).ne Es2 (by omega)) rfl) ?_
 refine lx_value (want rfl) (rn_fieldAddr fa_51_3 rfl) ?_
 refine lx_value (want rfl) (rn_loadBlk ag_48 sz_48 rfl ((((((B21.ext E1).ext E2).ext E3).ne Es1 (by omega)).ext E4).ne Es2 (by omega)) rfl rfl) ?_
 refine lx_value (want rfl) (rn_index 1 Tryz.underlying53 sz_48 rfl rfl rfl (by decide)) ?_
 refine lx_set (want rfl) sz_48 rfl (t_agg rfl) rfl rfl rfl (Bb89.ne Es2 (by omega)) (Nat.le_of_ble_eq_true rfl) ?_
 intro w8 Es3 Bs3
 have F8 := F7.set Es3 (by omega)
 have hzs3 := Es3.size
 refine lx_nil ?_
 refine wk_seq ?_
 refine wk_seq ?_
 refine wk_mix 8 (fun _ => .none) (by kernel_rfl) (by kernel_rfl) (fun kS G hk => by cases hk) (fun kS s y G hk => by cases hk) ?_
 simp only [List.take_succ_cons, List.take_zero, List.take_nil, List.drop_succ_cons, List.drop_zero, List.drop_nil]
 refine mx_calm rfl (want rfl) (fun u27 eu27 fu27 => mv_pointer rfl) ?_
 refine mx_calm rfl (want rfl) (fun u28 eu28 fu28 => rn_nilCheck rfl) ?_
 refine mx_calm rfl (want rfl) (fun u29 eu29 fu29 => rn_fieldAddr fa_90_0 rfl) ?_
 refine mx_calm rfl (want rfl) (fun u30 eu30 fu30 => rn_fieldAddr fa_80_0 rfl) ?_
 refine mx_calm rfl (want rfl) (fun u31 eu31 fu31 => rn_fieldAddr fa_35_1 rfl) ?_
 refine mx_calm rfl (want rfl) (fun u32 eu32 fu32 => rn_load1Blk ag_33 rfl (((((((((hB.ext Eb21).ext E1).ext E2).ext E3).ne Es1 (by omega)).ext E4).ne Es2 (by omega)).ne Es3 (by omega)).ext ((ext_drawn _).trans' eu32)) rfl) ?_
 refine mx_calm rfl (want rfl) (fun u33 eu33 fu33 => rn_fieldAddr fa_51_1 rfl) ?_
 refine mx_calm rfl (want rfl) (fun u34 eu34 fu34 => rn_load1Blk ag_3 rfl ((((((((B21.ext E1).ext E2).ext E3).ne Es1 (by omega)).ext E4).ne Es2 (by omega)).ne Es3 (by omega)).ext ((ext_drawn _).trans' eu34)) rfl) ?_
 refine mx_nil (fun w9 E5' H4 HS => ?_)
 have E5 := (ext_drawn _).trans' E5'
 have F9 := F8.ext E5
 have hz5 := E5.size
 refine lx_value (want rfl) (rn_index ta.toNat Tryz.underlying33 sz_73 rfl rfl (by omega) (by omega)) ?_
 refine lx_value (want rfl) (rn_fieldAddr fa_73_0 rfl) ?_
 refine lx_value (want rfl) (rn_load1 ag_5 rfl (F9.cell (hFZ _ hFx) (hcx 0 _ rfl))) ?_
 refine lx_value (want rfl) (rn_eql rfl rfl) ?_
 refine lx_dec_f (hn6) ?_
 refine lx_nil ?_
 refine wk_cond_f rfl ?_
 refine wk_skip ?_
 refine wk_seq ?_
 refine wk_seq ?_
 refine wk_region ?_
 refine lx_value (want rfl) (mv_int rfl) ?_
 refine lx_value (want rfl) (rn_eql rfl rfl) ?_
 refine lx_dec_f ((by decide)) ?_
 refine lx_nil ?_
 refine wk_cond_f rfl ?_
 refine wk_skip ?_
 refine wk_seq ?_
 refine wk_region ?_
 refine lx_value (want rfl) (mv_pointer rfl) ?_
 refine lx_value (want rfl) (rn_loadBlk ag_23 sz_23 rfl ((((Bs1.ext E4).ne Es2 (by omega)).ne Es3 (by omega)).ext E5) rfl rfl) ?_
 refine lx_call (want rfl) (ent_func cf_41 (argsC (t_pointer rfl) (argsC (t_agg rfl) args0))) (find_ct be _ _ _ rm [e1] [] s1 c1 s2 c2 (fun _ => True) (tc, ta) (Nat.le_of_ble_eq_true rfl) (Nat.le_of_ble_eq_true rfl) w9 (((((((((hB.ext Eb21).ext E1).ext E2).ext E3).ne Es1 (by omega)).ext E4).ne Es2 (by omega)).ne Es3 (by omega)).ext E5) (en_wide (fun _ _ => trivial) (h1.fr (en_stab _) (Fr.ext (Fr.trans (Fr.trans (Fr.ext (Fr.trans (Fr.ext (Fr.ext (Fr.ext (Fr.ext (Fr.refl (fun k => k = b87 ∨ k = b88 ∨ k = b89) w0) Eb21) E1) E2) E3) Es1 (fun k _ h => (.inl h))) E4) Es2 (fun k _ h => (.inr (.inl h)))) Es3 (fun k _ h => (.inr (.inr h)))) E5) (fun k hk h => by obtain ⟨g1, g2, g3⟩ := hGZ k hk; (try dsimp only at h); (try simp only [g1, g2, or_false, false_or] at h); omega))) (Sl.nil _)) ?_
 rintro vF w10 E6 hFR
 have F10 := F9.ext E6
 have hz6 := E6.size
 obtain rfl := find_none hFR (any_one hq1) rfl
 refine lx_value (want rfl) (mv_tuple rfl) ?_
 refine lx_value (want rfl) (rn_extract rfl rfl) ?_
 refine lx_value (want rfl) (rn_extract rfl rfl) ?_
 refine lx_value (want rfl) (as_pointer rfl) ?_
 refine lx_value (want rfl) (as_int rfl) ?_
 refine lx_nil ?_
 refine wk_seq ?_
 refine wk_seq ?_
 refine wk_region ?_
 refine lx_value (want rfl) (mv_int rfl) ?_
 refine lx_value (want rfl) (rn_lss rfl rfl) ?_
 refine lx_dec_t ((by decide)) ?_
 refine lx_nil ?_
 refine wk_cond_t rfl ?_
 refine wk_seq ?_
 refine wk_region ?_
 refine lx_value (want rfl) (mv_pointer rfl) ?_
 refine lx_value (want rfl) (rn_loadBlk ag_55 sz_55 rfl (((Bs2.ne Es3 (by omega)).ext E5).ext E6) rfl rfl) ?_
 refine lx_call (want rfl) (ent_func cf_42 (argsC (t_pointer rfl) (argsC (t_agg rfl) args0))) (addb_ct (fun k => k = be ∨ ob s2 k) be _ _ _ rm 1 0 s1 c1 s2 c2 [] ⟨tc, ta, [(0, 0), v]⟩ (some ⟨b89, 0, none⟩) 2 (.inl rfl) (fun k h => .inr h) hn2 (by omega) (by decide) (by decide) w10 ((((((((((hB.ext Eb21).ext E1).ext E2).ext E3).ne Es1 (by omega)).ext E4).ne Es2 (by omega)).ne Es3 (by omega)).ext E5).ext E6) ((((((((((hO2.ext Eb21).ext E1).ext E2).ext E3).ne Es1 (fun h => nb2 _ h rfl)).ext E4).ne Es2 (fun h => nb3 _ h rfl)).ne Es3 (fun h => nb4 _ h rfl)).ext E5).ext E6)) ?_
 rintro _ w11 E7 ⟨sN, cN, hBN, hON, hgN⟩
 have F11 := F10.new' E7 (fun kq => (fun h => h.elim (fun h => by rw [h]; exact (.inl hZb50)) (fun h => (zo2 _) h)))
 have hz7 := E7.size
 refine lx_nil ?_
 refine wk_seq ?_
 refine wk_region ?_
 refine lx_value (want rfl) (as_slice rfl) ?_
 refine lx_value (want rfl) (as_int rfl) ?_
 refine lx_nil ?_
 refine wk_ret ?_
 refine retR2 Tryz.results28 (.tmp (t_slice rfl)) (.tmp (t_int rfl)) F11 ?_
 exact ⟨rfl, sN, cN, hBN, en_wide hGl (h1.fr (en_stab _) (Fr.trans (Fr.ext (Fr.ext (Fr.trans (Fr.trans (Fr.ext (Fr.trans (Fr.ext (Fr.ext (Fr.ext (Fr.ext (Fr.refl (fun k => k = b87 ∨ k = b88 ∨ k = b89 ∨ (fun kq => kq = be ∨ ob s2 kq) k) w0) Eb21) E1) E2) E3) Es1 (fun k _ h => (.inl h))) E4) Es2 (fun k _ h => (.inr (.inl h)))) Es3 (fun k _ h => (.inr (.inr (.inl h))))) E5) E6) E7 (fun k _ h => (.inr (.inr (.inr h))))) (fun k hk h => by obtain ⟨g1, g2, g3⟩ := hGZ k hk; (try dsimp only at h); (try simp only [g1, g2, or_false, false_or] at h); omega)), en_oneG hON rfl (vl_blkG (u := (0, 0)) (v := v) (((Bs3.ext E5).ext E6).fr E7 (fun h => h.elim (fun h => absurd h (by omega)) (fun h => (fun h => nb4 _ h rfl) h)))) (fun k hk => (hgN k hk).elim (fun h => h.elim (fun h => by omega) (hlo2 k)) (fun h => by omega)) (fun k hk => by have hk : k = b89 := hk; omega)⟩

set_option maxHeartbeats 2000000 in
set_option maxRecDepth 100000 in
theorem takea_ct (Z : Nat → Prop) (SS : Sto) (sa : Option Addr) (ca : Nat) (sb : Option Addr) (cb : Nat) (F : Nat → Prop) (hok : OkS SS) (be rm : Nat) (tc ta : Int) (v : Vl) (hT : TokB SS (tc, ta, 0, v)) (hp2 : portN (codeAt SS ta) = 2) (hn6 : (codeAt SS ta).op ≠ 6) (hFZ : ∀ k, F k → ¬ Z k) (hZb50 : Z be) (lo : Nat) (hlob : lo ≤ be) (s1 : Option Addr) (c1 : Nat) (s2 : Option Addr) (c2 : Nat) (hrm : 1 ≤ rm) (hlo1 : ∀ k, ob s1 k → lo ≤ k) (hZo1 : ∀ k, ob s1 k → Z k) (hn1 : ∀ k, ob s1 k → k ≠ be) (w0 : World) (hS : StR F w0 SS sa ca sb cb) (hlow : lo ≤ w0.heap.size) (hB : Blk w0 be (elL (.slice sa SS.slots.length ca) (.slice sb SS.code.length cb) rm s1 0 c1 s2 0 c2 (.slice none 0 0)) 90) (hO1 : OwnS w0 55 3 s1 0 c1 []) :
  CT Tryz.prog 28 [.pointer (some ⟨be, 0, none⟩), .agg #[.int .i64 tc, .int .i64 ta, .int .i64 ((0 : Nat) : Int), .int .u8 v.1, .int .i64 v.2]] w0 Z (fun u w => u = .tuple #[.slice none 0 0, .int .i64 0] ∧ ∃ s c, Blk w be (elL (.slice sa SS.slots.length ca) (.slice sb SS.code.length cb) rm s 1 c s2 0 c2 (.slice none 0 0)) 90 ∧ EnS (fun k => lo ≤ k) w s [⟨tc, ta, [v, (0, 0)]⟩]) := by
 have hlb := hB.lt
 have hpl : placeB SS ta = true := hT.plc
 obtain ⟨hat, hax⟩ := placeB_at hpl
 have hcl := smallI_len (smallS_code hok.sm)
 have hS0 := hS
 obtain ⟨bx, ox, hsx, hFx, so, co, hcx, hco⟩ := hS.code _ _ hax
 subst hsx
 have F0 := Fr.refl Z w0
 have zo1 : ∀ k, ob s1 k → Z k ∨ w0.heap.size ≤ k := fun k h => .inl (hZo1 k h)
 refine ct_body Tryz.func28 rfl Tryz.ntmps28 (Nat.le_of_ble_eq_true rfl) ?_
 refine wk_seq ?_
 refine wk_region ?_
 refine lx_new (want rfl) (rn_box (t_agg rfl)) ?_
 intro b21 w1 hb21 Eb21 B21 hlb21
 have F1 := F0.ext Eb21
 have hzb21 := Eb21.size
 have nb1 : ∀ k, ob s1 k → k ≠ b21 := fun k hk => by have := (hO1).lt hk; omega
 refine lx_value (want rfl) (as_slice rfl) ?_
 refine lx_value (want rfl) (as_int rfl) ?_
 refine lx_nil ?_
 refine wk_seq ?_
 refine wk_seq ?_
 refine wk_mix 5 (fun _ => .none) (by kernel_rfl) (by kernel_rfl) (fun kS G hk => by cases hk) (fun kS s y G hk => by cases hk) ?_
 simp only [List.take_succ_cons, List.take_zero, List.take_nil, List.drop_succ_cons, List.drop_zero, List.drop_nil]
 refine mx_calm rfl (want rfl) (fun u1 eu1 fu1 => mv_pointer rfl) ?_
 refine mx_calm rfl (want rfl) (fun u2 eu2 fu2 => rn_nilCheck rfl) ?_
 refine mx_calm rfl (want rfl) (fun u3 eu3 fu3 => rn_fieldAddr fa_90_0 rfl) ?_
 refine mx_calm rfl (want rfl) (fun u4 eu4 fu4 => rn_loadBlk ag_80 sz_80 rfl ((hB.ext Eb21).ext ((ext_drawn _).trans' eu4)) rfl rfl) ?_
 refine mx_calm rfl (want rfl) (fun u5 eu5 fu5 => rn_loadBlk ag_51 sz_51 rfl (B21.ext ((ext_drawn _).trans' eu5)) rfl rfl) ?_
 refine mx_nil (fun w2 E1' H1 HS => ?_)
 have E1 := (ext_drawn _).trans' E1'
 have F2 := F1.ext E1
 have hz1 := E1.size
 refine lx_call (want rfl) (ent_func cf_39 (argsC (t_agg rfl) (argsC (t_agg rfl) args0))) (istok_ct SS sa ca _ cb F hok.sm (tc, ta, 0, v) hT w2 (hS0.fr F2 hFZ)) ?_
 rintro _ w3 E2 rfl
 have F3 := F2.ext E2
 have hz2 := E2.size
 refine lx_value (want rfl) (as_int rfl) ?_
 refine lx_nil ?_
 refine wk_seq ?_
 refine wk_region ?_
 refine lx_value (want rfl) (mv_int rfl) ?_
 refine lx_value (want rfl) (rn_neq rfl rfl) ?_
 refine lx_dec_f ((fun g => g rfl)) ?_
 refine lx_nil ?_
 refine wk_cond_f rfl ?_
 refine wk_skip ?_
 refine wk_seq ?_
 refine wk_mix 13 (fun kS => match kS with | 11 => .val (.int .i64 ((2 : Nat) : Int)) | 12 => .any (fun I v w => ∃ b, v = .pointer (some ⟨b, 0, none⟩) ∧ w3.heap.size ≤ b ∧ (I.1 ≤ b ∧ b < I.2) ∧ Blk w b [.int .i64 0, .int .i64 0] 23) | _ => .none) (by kernel_rfl) (by kernel_rfl) (by intro kS G hk; (try dsimp only at hk); (split at hk) <;> first | (cases hk; done) | (injection hk with hk; subst hk; exact ⟨by intro j hkj I v w w' hR hG; first | exact hG | (obtain ⟨b, h1, h2, hI, h3⟩ := hG; exact ⟨b, h1, h2, hI, h3.ext hR⟩), fun ⟨_, _, _, _, hs⟩ => by (try dsimp only at hs); split at hs <;> cases hs⟩)) (by intro kS s y G hk; (try dsimp only at hk); split at hk <;> cases hk) ?_
 simp only [List.take_succ_cons, List.take_zero, List.take_nil, List.drop_succ_cons, List.drop_zero, List.drop_nil]
 refine mx_calm rfl (want rfl) (fun u6 eu6 fu6 => rn_fieldAddr fa_51_0 rfl) ?_
 refine mx_calm rfl (want rfl) (fun u7 eu7 fu7 => rn_load1Blk ag_3 rfl (((B21.ext E1).ext E2).ext ((ext_drawn _).trans' eu7)) rfl) ?_
 refine mx_calm rfl (want rfl) (fun u8 eu8 fu8 => rn_fieldAddr fa_51_1 rfl) ?_
 refine mx_calm rfl (want rfl) (fun u9 eu9 fu9 => rn_load1Blk ag_3 rfl (((B21.ext E1).ext E2).ext ((ext_drawn _).trans' eu9)) rfl) ?_
 refine mx_calm rfl (want rfl) (fun u10 eu10 fu10 => rn_build2 (t_int rfl) (t_int rfl) (fun w => bd_23_0_1 _ _ w)) ?_
 refine mx_calm rfl (want rfl) (fun u11 eu11 fu11 => mv_pointer rfl) ?_
 refine mx_calm rfl (want rfl) (fun u12 eu12 fu12 => rn_nilCheck rfl) ?_
 refine mx_calm rfl (want rfl) (fun u13 eu13 fu13 => rn_fieldAddr fa_90_0 rfl) ?_
 refine mx_calm rfl (want rfl) (fun u14 eu14 fu14 => rn_loadBlk ag_80 sz_80 rfl ((((hB.ext Eb21).ext E1).ext E2).ext ((ext_drawn _).trans' eu14)) rfl rfl) ?_
 refine mx_calm rfl (want rfl) (fun u15 eu15 fu15 => rn_fieldAddr fa_51_1 rfl) ?_
 refine mx_calm rfl (want rfl) (fun u16 eu16 fu16 => rn_load1Blk ag_3 rfl (((B21.ext E1).ext E2).ext ((ext_drawn _).trans' eu16)) rfl) ?_
 refine mx_val rfl (want rfl) (fun u17 eu17 fu17 => do_call (ent_func cf_25 (argsC (t_agg rfl) (argsC (t_int rfl) args0))) (eports_ct SS sa ca _ cb F hok.sm _ hpl u17 (hS0.fr (F3.ext ((ext_drawn _).trans' eu17)) hFZ)) (fun _ _ E h => ⟨E, (by rw [h, hp2]; rfl)⟩)) ?_
 refine mx_any rfl rfl (want rfl) (fun u18 eu18 fu18 => (do_new2 (rn_alloc ze_23) (show _ ≤ _ from (((ext_drawn _).trans' eu18)).size)).mono (fun v w' h => ⟨h.1, h.2⟩)) (fun I7 v7 => ?_)
 refine mx_nil (fun w4 E3' H2 HS => ?_)
 have E3 := (ext_drawn _).trans' E3'
 have F4 := F3.ext E3
 have hz3 := E3.size
 have hI7 := (HS.1 7 _ rfl).2
 simp only at hI7
 have g7 := H2 7 _ rfl
 (try dsimp only at g7); obtain ⟨b87, hv7, hbb87, hib87, Bb87⟩ := g7; subst hv7; have hlbb87 := Bb87.lt
 have nb2 : ∀ k, ob s1 k → k ≠ b87 := fun k hk => by have := (hO1).lt hk; omega
 refine lx_set (want rfl) sz_23 rfl (t_agg rfl) rfl rfl rfl Bb87 (Nat.le_of_ble_eq_true rfl) ?_
 intro w5 Es1 Bs1
 have F5 := F4.set Es1 (by omega)
 have hzs1 := Es1.size
 refine lx_value (want rfl) (as_int rfl) ?_
 refine lx_nil ?_
 refine wk_seq ?_
 refine wk_mix 8 (fun kS => match kS with | 5 => .any (fun I v w => ∃ b, v = .slice (some ⟨b, 0, none⟩) 2 2 ∧ w5.heap.size ≤ b ∧ (I.1 ≤ b ∧ b < I.2) ∧ Blk w b [.int .u8 0, .int .i64 0, .int .u8 0, .int .i64 0] 48) | 7 => .any (fun I v w => ∃ b, v = .pointer (some ⟨b, 0, none⟩) ∧ w5.heap.size ≤ b ∧ (I.1 ≤ b ∧ b < I.2) ∧ Blk w b [.int .i64 0, .int .i64 0, .slice none 0 0] 55) | _ => .none) (by kernel_rfl) (by kernel_rfl) (by intro kS G hk; (try dsimp only at hk); (split at hk) <;> first | (cases hk; done) | (injection hk with hk; subst hk; exact ⟨by intro j hkj I v w w' hR hG; first | exact hG | (obtain ⟨b, h1, h2, hI, h3⟩ := hG; exact ⟨b, h1, h2, hI, h3.ext hR⟩) | (obtain ⟨b, h1, h2, hI, h3⟩ := hG; exact ⟨b, h1, h2, hI, h3.ext hR⟩), fun ⟨_, _, _, _, hs⟩ => by (try dsimp only at hs); split at hs <;> cases hs⟩)) (by intro kS s y G hk; (try dsimp only at hk); split at hk <;> cases hk) ?_
 simp only [List.take_succ_cons, List.take_zero, List.take_nil, List.drop_succ_cons, List.drop_zero, List.drop_nil]
 refine mx_calm rfl (want rfl) (fun u19 eu19 fu19 => rn_fieldAddr fa_51_0 rfl) ?_
 refine mx_calm rfl (want rfl) (fun u20 eu20 fu20 => rn_load1Blk ag_3 rfl (((((B21.ext E1).ext E2).ext E3).ne Es1 (by omega)).ext ((ext_drawn _).trans' eu20)) rfl) ?_
 refine mx_calm rfl (want rfl) (fun u21 eu21 fu21 => rn_fieldAddr fa_51_1 rfl) ?_
 refine mx_calm rfl (want rfl) (fun u22 eu22 fu22 => rn_load1Blk ag_3 rfl (((((B21.ext E1).ext E2).ext E3).ne Es1 (by omega)).ext ((ext_drawn _).trans' eu22)) rfl) ?_
 refine mx_calm rfl (want rfl) (fun u23 eu23 fu23 => mv_int rfl) ?_
 refine mx_any rfl rfl (want rfl) (fun u24 eu24 fu24 => (do_newS2 (rn_makeSliceN (n := 2) Tryz.underlying53 ti_48 rfl (by decide) rfl rfl rfl (by decide)) (show _ ≤ _ from (((ext_drawn _).trans' eu24)).size)).mono (fun v w' h => ⟨h.1, h.2⟩)) (fun I39 v39 => ?_)
 refine mx_calm (v := .agg #[.int .i64 tc, .int .i64 ta, .slice (sOf v39) 2 (cOf v39)]) rfl (want rfl) (fun u25 eu25 fu25 => by obtain ⟨b39, rfl, _⟩ := fu25 39 _ rfl (show (39 : Nat) ∈ _ from by decide); exact rn_build3 (t_int rfl) (t_int rfl) (t_slice rfl) (fun w => bd_55_0_1_2 _ _ _ _ _ w)) ?_
 refine mx_any rfl rfl (want rfl) (fun u26 eu26 fu26 => (do_new2 (rn_alloc ze_55) (show _ ≤ _ from (((ext_drawn _).trans' eu26)).size)).mono (fun v w' h => ⟨h.1, h.2⟩)) (fun I9 v9 => ?_)
 refine mx_nil (fun w6 E4' H3 HS => ?_)
 have E4 := (ext_drawn _).trans' E4'
 have F6 := F5.ext E4
 have hz4 := E4.size
 have hI9 := (HS.1 9 _ rfl).2
 have hI39 := (HS.1 39 _ rfl).2
 have hX9_39 := HS.2 9 _ 39 _ rfl rfl (show (9 : Nat) ≠ 39 from by decide)
 simp only at hI9
 simp only at hI39
 simp only at hX9_39
 have g9 := H3 9 _ rfl
 (try dsimp only at g9); obtain ⟨b88, hv9, hbb88, hib88, Bb88⟩ := g9; subst hv9; have hlbb88 := Bb88.lt
 have nb3 : ∀ k, ob s1 k → k ≠ b88 := fun k hk => by have := (hO1).lt hk; omega
 have g39 := H3 39 _ rfl
 (try dsimp only at g39); obtain ⟨b89, hv39, hbb89, hib89, Bb89⟩ := g39; subst hv39; have hlbb89 := Bb89.lt
 have nb4 : ∀ k, ob s1 k → k ≠ b89 := fun k hk => by have := (hO1).lt hk; omega
 refine lx_set (want rfl) sz_55 rfl (t_agg rfl) rfl rfl rfl Bb88 (Nat.le_of_ble_eq_true rfl) ?_
 intro w7 Es2 Bs2
 have F7 := F6.set Es2 (by omega)
 have hzs2 := Es2.size
 refine lx_nil ?_
 refine wk_seq ?_
 refine wk_region ?_
 refine lx_value (want rfl) (rn_fieldAddr fa_55_2 rfl) ?_
 refine lx_value (want rfl) (rn_load1Blk ag_53 rfl Bs2 rfl) ?_
 refine lx_value (want rfl) (rn_fieldAddr fa_51_2 rfl) ?_
 refine lx_value (want rfl) (rn_load1Blk ag_3 rfl ((((((B21.ext E1).ext E2).ext E3).ne Es1 (by omega)).ext E4).ne Es2 (by omega)) rfl) ?_
 refine lx_value (want rfl) (rn_fieldAddr fa_51_3 rfl) ?_
 refine lx_value (want rfl) (rn_loadBlk ag_48 sz_48 rfl ((((((B21.ext E1).ext E2).ext E3).ne Es1 (by omega)).ext E4).ne Es2 (by omega)) rfl rfl) ?_
 refine lx_value (want rfl) (rn_index 0 Tryz.underlying53 sz_48 rfl rfl rfl (by decide)) ?_
 refine lx_set (want rfl) sz_48 rfl (t_agg rfl) rfl rfl rfl (Bb89.ne Es2 (by omega)) (Nat.le_of_ble_eq_true rfl) ?_
 intro w8 Es3 Bs3
 have F8 := F7.set Es3 (by omega)
 have hzs3 := Es3.size
 refine lx_nil ?_
 refine wk_seq ?_
 refine wk_seq ?_
 refine wk_mix 8 (fun _ => .none) (by kernel_rfl) (by kernel_rfl) (fun kS G hk => by cases hk) (fun kS s y G hk => by cases hk) ?_
 simp only [List.take_succ_cons, List.take_zero, List.take_nil, List.drop_succ_cons, List.drop_zero, List.drop_nil]
 refine mx_calm rfl (want rfl) (fun u27 eu27 fu27 => mv_pointer rfl) ?_
 refine mx_calm rfl (want rfl) (fun u28 eu28 fu28 => rn_nilCheck rfl) ?_
 refine mx_calm rfl (want rfl) (fun u29 eu29 fu29 => rn_fieldAddr fa_90_0 rfl) ?_
 refine mx_calm rfl (want rfl) (fun u30 eu30 fu30 => rn_fieldAddr fa_80_0 rfl) ?_
 refine mx_calm rfl (want rfl) (fun u31 eu31 fu31 => rn_fieldAddr fa_35_1 rfl) ?_
 refine mx_calm rfl (want rfl) (fun u32 eu32 fu32 => rn_load1Blk ag_33 rfl (((((((((hB.ext Eb21).ext E1).ext E2).ext E3).ne Es1 (by omega)).ext E4).ne Es2 (by omega)).ne Es3 (by omega)).ext ((ext_drawn _).trans' eu32)) rfl) ?_
 refine mx_calm rfl (want rfl) (fun u33 eu33 fu33 => rn_fieldAddr fa_51_1 rfl) ?_
 refine mx_calm rfl (want rfl) (fun u34 eu34 fu34 => rn_load1Blk ag_3 rfl ((((((((B21.ext E1).ext E2).ext E3).ne Es1 (by omega)).ext E4).ne Es2 (by omega)).ne Es3 (by omega)).ext ((ext_drawn _).trans' eu34)) rfl) ?_
 refine mx_nil (fun w9 E5' H4 HS => ?_)
 have E5 := (ext_drawn _).trans' E5'
 have F9 := F8.ext E5
 have hz5 := E5.size
 refine lx_value (want rfl) (rn_index ta.toNat Tryz.underlying33 sz_73 rfl rfl (by omega) (by omega)) ?_
 refine lx_value (want rfl) (rn_fieldAddr fa_73_0 rfl) ?_
 refine lx_value (want rfl) (rn_load1 ag_5 rfl (F9.cell (hFZ _ hFx) (hcx 0 _ rfl))) ?_
 refine lx_value (want rfl) (rn_eql rfl rfl) ?_
 refine lx_dec_f (hn6) ?_
 refine lx_nil ?_
 refine wk_cond_f rfl ?_
 refine wk_skip ?_
 refine wk_seq ?_
 refine wk_seq ?_
 refine wk_region ?_
 refine lx_value (want rfl) (mv_int rfl) ?_
 refine lx_value (want rfl) (rn_eql rfl rfl) ?_
 refine lx_dec_f ((by decide)) ?_
 refine lx_nil ?_
 refine wk_cond_f rfl ?_
 refine wk_skip ?_
 refine wk_seq ?_
 refine wk_region ?_
 refine lx_value (want rfl) (mv_pointer rfl) ?_
 refine lx_value (want rfl) (rn_loadBlk ag_23 sz_23 rfl ((((Bs1.ext E4).ne Es2 (by omega)).ne Es3 (by omega)).ext E5) rfl rfl) ?_
 refine lx_call (want rfl) (ent_func cf_41 (argsC (t_pointer rfl) (argsC (t_agg rfl) args0))) (find_ct be _ _ _ rm [] [] s1 c1 s2 c2 (fun _ => True) (tc, ta) (Nat.le_of_ble_eq_true rfl) (Nat.le_of_ble_eq_true rfl) w9 (((((((((hB.ext Eb21).ext E1).ext E2).ext E3).ne Es1 (by omega)).ext E4).ne Es2 (by omega)).ne Es3 (by omega)).ext E5) (Sl.nil _) (Sl.nil _)) ?_
 rintro vF w10 E6 hFR
 have F10 := F9.ext E6
 have hz6 := E6.size
 obtain rfl := find_none hFR rfl rfl
 refine lx_value (want rfl) (mv_tuple rfl) ?_
 refine lx_value (want rfl) (rn_extract rfl rfl) ?_
 refine lx_value (want rfl) (rn_extract rfl rfl) ?_
 refine lx_value (want rfl) (as_pointer rfl) ?_
 refine lx_value (want rfl) (as_int rfl) ?_
 refine lx_nil ?_
 refine wk_seq ?_
 refine wk_seq ?_
 refine wk_region ?_
 refine lx_value (want rfl) (mv_int rfl) ?_
 refine lx_value (want rfl) (rn_lss rfl rfl) ?_
 refine lx_dec_t ((by decide)) ?_
 refine lx_nil ?_
 refine wk_cond_t rfl ?_
 refine wk_seq ?_
 refine wk_region ?_
 refine lx_value (want rfl) (mv_pointer rfl) ?_
 refine lx_value (want rfl) (rn_loadBlk ag_55 sz_55 rfl (((Bs2.ne Es3 (by omega)).ext E5).ext E6) rfl rfl) ?_
 refine lx_call (want rfl) (ent_func cf_42 (argsC (t_pointer rfl) (argsC (t_agg rfl) args0))) (adda_ct (fun k => k = be ∨ ob s1 k) be _ _ _ rm 0 0 s1 c1 s2 c2 [] ⟨tc, ta, [v, (0, 0)]⟩ (some ⟨b89, 0, none⟩) 2 (.inl rfl) (fun k h => .inr h) hn1 (by omega) (by decide) (by decide) w10 ((((((((((hB.ext Eb21).ext E1).ext E2).ext E3).ne Es1 (by omega)).ext E4).ne Es2 (by omega)).ne Es3 (by omega)).ext E5).ext E6) ((((((((((hO1.ext Eb21).ext E1).ext E2).ext E3).ne Es1 (fun h => nb2 _ h rfl)).ext E4).ne Es2 (fun h => nb3 _ h rfl)).ne Es3 (fun h => nb4 _ h rfl)).ext E5).ext E6)) ?_
 rintro _ w11 E7 ⟨sN, cN, hBN, hON, hgN⟩
 have F11 := F10.new' E7 (fun kq => (fun h => h.elim (fun h => by rw [h]; exact (.inl hZb50)) (fun h => (zo1 _) h)))
 have hz7 := E7.size
 refine lx_nil ?_
 refine wk_seq ?_
 refine wk_region ?_
 refine lx_value (want rfl) (as_slice rfl) ?_
 refine lx_value (want rfl) (as_int rfl) ?_
 refine lx_nil ?_
 refine wk_ret ?_
 refine retR2 Tryz.results28 (.tmp (t_slice rfl)) (.tmp (t_int rfl)) F11 ?_
 exact ⟨rfl, sN, cN, hBN, en_oneG hON rfl (vl_blkG (u := v) (v := (0, 0)) (((Bs3.ext E5).ext E6).fr E7 (fun h => h.elim (fun h => absurd h (by omega)) (fun h => (fun h => nb4 _ h rfl) h)))) (fun k hk => (hgN k hk).elim (fun h => h.elim (fun h => by omega) (hlo1 k)) (fun h => by omega)) (fun k hk => by have hk : k = b89 := hk; omega)⟩

end Go.Proofs.YtgnnegfnpgnbbaaGreatDoor

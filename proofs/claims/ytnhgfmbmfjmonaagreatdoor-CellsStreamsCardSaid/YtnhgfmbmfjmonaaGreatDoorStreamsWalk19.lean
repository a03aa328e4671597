/- What functions compute: cellsstreams. -/
import Derived.Test.YtnhgfmbmfjmonaaGreatDoorStreamsFacts
import Derived.Test.YtnhgfmbmfjmonaaGreatDoorStreamsPre
import Derived.Test.YtnhgfmbmfjmonaaGreatDoorStreamsWalk1
import Derived.Test.YtnhgfmbmfjmonaaGreatDoorStreamsWalk15
import Derived.Test.YtnhgfmbmfjmonaaGreatDoorStreamsWalk17
import Derived.Test.YtnhgfmbmfjmonaaGreatDoorStreamsWalk18
import Derived.Test.YtnhgfmbmfjmonaaGreatDoorStreamsWalk2
import Derived.Test.YtnhgfmbmfjmonaaGreatDoorStreamsWalk5
import Derived.Test.YtnhgfmbmfjmonaaGreatDoorStreamsWalk6
set_option maxRecDepth 100000
set_option linter.unusedVariables false
set_option linter.unusedSimpArgs false
namespace Go.Proofs.YtnhgfmbmfjmonaaGreatDoor
open Go Go.RowKit Go.Mix Go.Eng
set_option maxHeartbeats 4000000 in
set_option maxRecDepth 100000 in
theorem cellsstreams_ct (p : Pic) (sv : Option Addr) (cv : Nat) (sk : Option Addr) (ck : Nat) (G : Nat → Prop) (z1 z2 : Int) (w0 : World) (hv : VlS G w0 sv p.1) (hk : VvS G w0 sk p.2) (hTb : ItoaT w0) :
  CT Tryz.prog 10 [.agg #[.slice sv p.1.length cv, .slice sk p.2.length ck], .int .i64 z1, .int .i64 z2] w0 no (fun v _ => v = .bool true) := by
 have hTl := tab_lt itoaG hTb
 have hS4 := strR_len p z1
 have F0 := Fr.refl no w0
 refine ct_body Tryz.func10 rfl Tryz.ntmps10 (Nat.le_of_ble_eq_true rfl) ?_
 refine wk_seq ?_
 refine wk_region ?_
 refine lx_new (want rfl) (rn_box (t_agg rfl)) ?_
 intro b1 w1 hb1 Eb1 B1 hlb1
 have F1 := F0.ext Eb1
 have hzb1 := Eb1.size
 refine lx_value (want rfl) (as_bool rfl) ?_
 refine lx_nil ?_
 refine wk_seq ?_
 refine wk_seq ?_
 refine wk_region ?_
 refine lx_value (want rfl) (rn_loadBlk ag_45 sz_45 rfl B1 rfl rfl) ?_
 refine lx_call (want rfl) (ent_func cf_27 (argsC (t_agg rfl) args0)) (thinpic_ct p _ _ _ _ _ w1 (hv.fr (vl_stab _) F1 (fun _ _ h => h)) (hk.fr (vv_stab _) F1 (fun _ _ h => h))) ?_
 rintro _ w2 E1 rfl
 have F2 := F1.ext E1
 have hz1 := E1.size
 refine lx_split (fun ht => ?_) (fun ht => ?_)
 ·
  have hBp := (thinP_Bp ht).1
  refine lx_value (want rfl) (rn_not rfl) ?_
  refine lx_nil ?_
  refine wk_cond_f rfl ?_
  refine wk_skip ?_
  refine wk_seq ?_
  refine wk_region ?_
  refine lx_value (want rfl) (rn_loadBlk ag_45 sz_45 rfl (B1.ext E1) rfl rfl) ?_
  refine lx_call (want rfl) (ent_func cf_29 (argsC (t_agg rfl) args0)) (copypic_ct p sv cv sk ck G hBp w2 (hv.fr (vl_stab _) F2 (fun _ _ h => h)) (hk.fr (vv_stab _) F2 (fun _ _ h => h))) ?_
  rintro _ w3 E2 ⟨sA, cA, sB, cB, rfl, hPV, hPC⟩
  have F3 := F2.ext E2
  have hz2 := E2.size
  refine lx_new (want rfl) (rn_alloc ze_45) ?_
  intro b2 w4 hb2 Eb2 B2 hlb2
  have F4 := F3.ext Eb2
  have hzb2 := Eb2.size
  refine lx_set (want rfl) sz_45 rfl (t_agg rfl) rfl rfl rfl B2 (Nat.le_of_ble_eq_true rfl) ?_
  intro w5 Es1 Bs1
  have F5 := F4.set Es1 (by omega)
  have hzs1 := Es1.size
  refine lx_nil ?_
  refine wk_seq ?_
  refine wk_region ?_
  refine lx_value (want rfl) (rn_loadBlk ag_45 sz_45 rfl Bs1 rfl rfl) ?_
  refine lx_value (want rfl) (mv_int rfl) ?_
  refine lx_call (want rfl) (ent_func cf_49 (argsC (t_agg rfl) (argsC (t_int rfl) args0))) (pStream_ct p sA cA sB cB _ hBp z1 w5 (hPV.fr (vl_stab _) (Fr.trans (Fr.ext (Fr.refl (fun k => k = b2) w3) Eb2) Es1 (fun k _ h => h)) (fun k hk h => by have hk1 := hk.1; have hk2 := hk.2; (try dsimp only at h hk1 hk2); first | exact h.elim | omega | (rcases (show _ ∨ _ from h) with h | h <;> omega))) (hPC.fr (vv_stab _) (Fr.trans (Fr.ext (Fr.refl (fun k => k = b2) w3) Eb2) Es1 (fun k _ h => h)) (fun k hk h => by have hk1 := hk.1; have hk2 := hk.2; (try dsimp only at h hk1 hk2); first | exact h.elim | omega | (rcases (show _ ∨ _ from h) with h | h <;> omega)))) ?_
  rintro _ w6 E3 ⟨sT, cT, rfl, hT1⟩
  have F6 := F5.ext E3
  have hz3 := E3.size
  refine lx_value (want rfl) (mv_tuple rfl) ?_
  refine lx_value (want rfl) (rn_extract rfl rfl) ?_
  refine lx_value (want rfl) (rn_extract rfl rfl) ?_
  refine lx_value (want rfl) (rn_extract rfl rfl) ?_
  refine lx_new (want rfl) (rn_alloc ze_36) ?_
  intro b3 w7 hb3 Eb3 B3 hlb3
  have F7 := F6.ext Eb3
  have hzb3 := Eb3.size
  refine lx_value (want rfl) (as_slice rfl) ?_
  refine lx_set (want rfl) sz_36 rfl (t_agg rfl) rfl rfl rfl B3 (Nat.le_of_ble_eq_true rfl) ?_
  intro w8 Es2 Bs2
  have F8 := F7.set Es2 (by omega)
  have hzs2 := Es2.size
  refine lx_value (want rfl) (as_int rfl) ?_
  refine lx_nil ?_
  refine wk_seq ?_
  refine wk_region ?_
  refine lx_value (want rfl) (rn_loadBlk ag_45 sz_45 rfl (((((((B1.ext E1).ext E2).ext Eb2).ne Es1 (by omega)).ext E3).ext Eb3).ne Es2 (by omega)) rfl rfl) ?_
  refine lx_value (want rfl) (mv_int rfl) ?_
  refine lx_call (want rfl) (ent_func cf_50 (argsC (t_agg rfl) (argsC (t_int rfl) args0))) (rStream_ct p sv cv sk ck G hBp z1 w8 (hv.fr (vl_stab _) F8 (fun _ _ h => h)) (hk.fr (vv_stab _) F8 (fun _ _ h => h))) ?_
  rintro _ w9 E4 ⟨sT2, cT2, rfl, hT2⟩
  have F9 := F8.ext E4
  have hz4 := E4.size
  refine lx_value (want rfl) (mv_tuple rfl) ?_
  refine lx_value (want rfl) (rn_extract rfl rfl) ?_
  refine lx_value (want rfl) (rn_extract rfl rfl) ?_
  refine lx_value (want rfl) (rn_extract rfl rfl) ?_
  refine lx_new (want rfl) (rn_alloc ze_36) ?_
  intro b4 w10 hb4 Eb4 B4 hlb4
  have F10 := F9.ext Eb4
  have hzb4 := Eb4.size
  refine lx_value (want rfl) (as_slice rfl) ?_
  refine lx_set (want rfl) sz_36 rfl (t_agg rfl) rfl rfl rfl B4 (Nat.le_of_ble_eq_true rfl) ?_
  intro w11 Es3 Bs3
  have F11 := F10.set Es3 (by omega)
  have hzs3 := Es3.size
  refine lx_value (want rfl) (as_int rfl) ?_
  refine lx_nil ?_
  refine wk_seq ?_
  refine wk_region ?_
  refine lx_value (want rfl) (rn_loadBlk ag_45 sz_45 rfl ((((((Bs1.ext E3).ext Eb3).ne Es2 (by omega)).ext E4).ext Eb4).ne Es3 (by omega)) rfl rfl) ?_
  refine lx_value (want rfl) (mv_int rfl) ?_
  refine lx_call (want rfl) (ent_func cf_51 (argsC (t_agg rfl) (argsC (t_int rfl) args0))) (((pshow_ct p sA cA sB cB _ hBp z2 ItoaT (fun k => k = 0) (fun hf hS h => tab_fr itoaG hf hS h) (fun hp v hv h1 w hw => itoa_ct (by have := isVal_1 (pic_val1 hp hv) h1; omega) (by have := isVal_1 (pic_val1 hp hv) h1; omega) w hw) w11 (hPV.fr (vl_stab _) (Fr.trans (Fr.ext (Fr.ext (Fr.trans (Fr.ext (Fr.ext (Fr.trans (Fr.ext (Fr.refl (fun k => k = b2 ∨ k = b3 ∨ k = b4) w3) Eb2) Es1 (fun k _ h => (.inl h))) E3) Eb3) Es2 (fun k _ h => (.inr (.inl h)))) E4) Eb4) Es3 (fun k _ h => (.inr (.inr h)))) (fun k hk h => by have hk1 := hk.1; have hk2 := hk.2; (try dsimp only at h hk1 hk2); first | exact h.elim | omega | (rcases (show _ ∨ _ from h) with h | h <;> omega))) (hPC.fr (vv_stab _) (Fr.trans (Fr.ext (Fr.ext (Fr.trans (Fr.ext (Fr.ext (Fr.trans (Fr.ext (Fr.refl (fun k => k = b2 ∨ k = b3 ∨ k = b4) w3) Eb2) Es1 (fun k _ h => (.inl h))) E3) Eb3) Es2 (fun k _ h => (.inr (.inl h)))) E4) Eb4) Es3 (fun k _ h => (.inr (.inr h)))) (fun k hk h => by have hk1 := hk.1; have hk2 := hk.2; (try dsimp only at h hk1 hk2); first | exact h.elim | omega | (rcases (show _ ∨ _ from h) with h | h <;> omega))) (fun k hk => by subst hk; exact Nat.lt_of_lt_of_le hTl F11.size) (tab_fr itoaG F11 (fun _ _ h => h) hTb)).mono (fun _ _ h => h) (fun _ _ _ h => (show _ = Value.tuple #[.string ⟨(showR p z2).2.toArray⟩, .int .i64 (showR p z2).1] from h)))) ?_
  rintro _ w12 E5 rfl
  have F12 := F11.ext E5
  have hz5 := E5.size
  refine lx_value (want rfl) (mv_tuple rfl) ?_
  refine lx_value (want rfl) (rn_extract rfl rfl) ?_
  refine lx_value (want rfl) (rn_extract rfl rfl) ?_
  refine lx_value (want rfl) (as_string rfl) ?_
  refine lx_value (want rfl) (as_int rfl) ?_
  refine lx_nil ?_
  refine wk_seq ?_
  refine wk_region ?_
  refine lx_value (want rfl) (rn_loadBlk ag_45 sz_45 rfl (((((((((((B1.ext E1).ext E2).ext Eb2).ne Es1 (by omega)).ext E3).ext Eb3).ne Es2 (by omega)).ext E4).ext Eb4).ne Es3 (by omega)).ext E5) rfl rfl) ?_
  refine lx_value (want rfl) (mv_int rfl) ?_
  refine lx_call (want rfl) (ent_func cf_52 (argsC (t_agg rfl) (argsC (t_int rfl) args0))) (((rShow_ct p sv cv sk ck G hBp z2 w12 (hv.fr (vl_stab _) F12 (fun _ _ h => h)) (hk.fr (vv_stab _) F12 (fun _ _ h => h))).mono (fun _ _ h => h) (fun _ _ _ h => (show _ = Value.tuple #[.string ⟨(showR p z2).2.toArray⟩, .int .i64 (showR p z2).1] from h)))) ?_
  rintro _ w13 E6 rfl
  have F13 := F12.ext E6
  have hz6 := E6.size
  refine lx_value (want rfl) (mv_tuple rfl) ?_
  refine lx_value (want rfl) (rn_extract rfl rfl) ?_
  refine lx_value (want rfl) (rn_extract rfl rfl) ?_
  refine lx_value (want rfl) (as_string rfl) ?_
  refine lx_value (want rfl) (as_int rfl) ?_
  refine lx_nil ?_
  refine wk_seq ?_
  refine wk_seq ?_
  refine wk_region ?_
  refine lx_value (want rfl) (mv_slice rfl) ?_
  refine lx_value (want rfl) (rn_len Tryz.underlying77 rfl) ?_
  refine lx_value (want rfl) (mv_slice rfl) ?_
  refine lx_value (want rfl) (rn_len Tryz.underlying77 rfl) ?_
  refine lx_value (want rfl) (rn_neq rfl rfl) ?_
  refine lx_dec_f ((fun h => h rfl)) ?_
  refine lx_nil ?_
  refine wk_cond_f rfl ?_
  refine wk_skip ?_
  refine wk_seq ?_
  refine wk_seq ?_
  refine wk_region ?_
  refine lx_value (want rfl) (as_int rfl) ?_
  refine lx_nil ?_
  refine wk_block ?_
  refine wk_loopA [6, 18, 56, 57, 58, 59, 60, 61, 62, 63, 64, 65, 66, 67, 68, 69, 70] no (fun nM ρ w => ∃ (i : Nat), nM = (strR p z1).2.1.length - i ∧ ρ 18 = .int .i64 i ∧ (i ≤ (strR p z1).2.1.length)) _ ⟨0, rfl, rfl, Nat.zero_le _⟩ ?_
  rintro n1 ρ1 w14 A1 EL1 ⟨i, rfl, hs1_18, hi⟩
  have F14 := F13.ext EL1
  have hzL1 := EL1.size
  refine wk_seq ?_
  refine wk_seq ?_
  refine wk_region ?_
  refine lx_value (want rfl) (mv_int hs1_18) ?_
  refine lx_value (want rfl) (mv_slice (A1.at 8 rfl rfl)) ?_
  refine lx_value (want rfl) (rn_len Tryz.underlying77 rfl) ?_
  refine lx_value (want rfl) (rn_lss rfl rfl) ?_
  refine lx_dec (fun hlt => ?_) (fun hlt => ?_)
  ·
   refine lx_nil ?_
   refine wk_cond_t rfl ?_
   refine wk_skip ?_
   refine wk_seq ?_
   refine wk_block ?_
   refine wk_seq ?_
   obtain ⟨y, hy⟩ := getx hlt
   obtain ⟨b1_, o1_, hs1, _, hc1⟩ := (hT1.fr (int_stab _) (Fr.ext (Fr.ext (Fr.ext (Fr.trans (Fr.ext (Fr.ext (Fr.trans (Fr.ext (Fr.refl (fun k => k = b3 ∨ k = b4) w6) Eb3) Es2 (fun k _ h => (.inl h))) E4) Eb4) Es3 (fun k _ h => (.inr h))) E5) E6) EL1) (fun k hk h => by have hk1 := hk.1; have hk2 := hk.2; (try dsimp only at h hk1 hk2); first | exact h.elim | omega | (rcases (show _ ∨ _ from h) with h | h <;> omega))) i y hy
   subst hs1
   obtain ⟨b2_, o2_, hs2, _, hc2⟩ := (hT2.fr (int_stab _) (Fr.ext (Fr.ext (Fr.ext (Fr.trans (Fr.ext (Fr.refl (fun k => k = b4) w9) Eb4) Es3 (fun k _ h => h)) E5) E6) EL1) (fun k hk h => by have hk1 := hk.1; have hk2 := hk.2; (try dsimp only at h hk1 hk2); first | exact h.elim | omega | (rcases (show _ ∨ _ from h) with h | h <;> omega))) i y hy
   subst hs2
   refine wk_mix 8 (fun _ => .none) (by kernel_rfl) (by kernel_rfl) (fun kS G hk => by cases hk) (fun kS s y G hk => by cases hk) ?_
   simp only [List.take_succ_cons, List.take_zero, List.take_nil, List.drop_succ_cons, List.drop_zero, List.drop_nil]
   refine mx_calm rfl (want rfl) (fun u1 eu1 fu1 => mv_slice (A1.at 8 rfl rfl)) ?_
   refine mx_calm rfl (want rfl) (fun u2 eu2 fu2 => mv_int hs1_18) ?_
   refine mx_calm rfl (want rfl) (fun u3 eu3 fu3 => rn_index i Tryz.underlying77 sz_3 rfl rfl rfl (by omega)) ?_
   refine mx_calm rfl (want rfl) (fun u4 eu4 fu4 => rn_load1 ag_3 rfl (((ext_drawn _).trans' eu4).cell (fun h => h) (hc1 0 _ rfl))) ?_
   refine mx_calm rfl (want rfl) (fun u5 eu5 fu5 => mv_slice (A1.at 11 rfl rfl)) ?_
   refine mx_calm rfl (want rfl) (fun u6 eu6 fu6 => mv_int hs1_18) ?_
   refine mx_calm rfl (want rfl) (fun u7 eu7 fu7 => rn_index i Tryz.underlying77 sz_3 rfl rfl rfl (by omega)) ?_
   refine mx_calm rfl (want rfl) (fun u8 eu8 fu8 => rn_load1 ag_3 rfl (((ext_drawn _).trans' eu8).cell (fun h => h) (hc2 0 _ rfl))) ?_
   refine mx_nil (fun w15 E7' H1 HS => ?_)
   have E7 := (ext_drawn _).trans' E7'
   have F15 := F14.ext E7
   have hz7 := E7.size
   refine lx_value (want rfl) (rn_neq rfl rfl) ?_
   refine lx_dec_f ((fun h => h rfl)) ?_
   refine lx_nil ?_
   refine wk_cond_f rfl ?_
   refine wk_skip ?_
   refine wk_region ?_
   refine lx_value (want rfl) (mv_int hs1_18) ?_
   refine lx_value (want rfl) (rn_add rfl rfl (by omega)) ?_
   refine lx_value (want rfl) (as_int rfl) ?_
   refine lx_nil ?_
   exact ⟨rfl, ((((((((((((((((A1.up rfl _).up rfl _).up rfl _).up rfl _).up rfl _).up rfl _).up rfl _).up rfl _).up rfl _).up rfl _).up rfl _).up rfl _).up rfl _).up rfl _).up rfl _).up rfl _), (Fr.ext EL1 E7), _, (by omega), i + 1, rfl, rfl, by omega⟩
  ·
   refine lx_nil ?_
   refine wk_cond_f rfl ?_
   refine wk_exit ?_
   refine wk_seq ?_
   refine wk_region ?_
   refine lx_value (want rfl) (rn_loadBlk ag_36 sz_36 (A1.at 9 rfl rfl) ((((((Bs2.ext E4).ext Eb4).ne Es3 (by omega)).ext E5).ext E6).ext EL1) rfl rfl) ?_
   refine lx_value (want rfl) (rn_loadBlk ag_36 sz_36 (A1.at 12 rfl rfl) (((Bs3.ext E5).ext E6).ext EL1) rfl rfl) ?_
   refine lx_value (want rfl) (rn_cmpS (t_agg rfl) (t_agg rfl) (geql_36 _ _ _ _) (eql_36 _ _ _ _)) ?_
   refine lx_dec_t (⟨rfl, rfl⟩) ?_
   refine lx_value (want rfl) (mv_bool rfl) ?_
   refine lx_value (want_if (j := 3) (d := 74) (x := true) (y := true) rfl rfl (by decide) rfl) (mv_int (A1.at 10 rfl rfl)) ?_
   refine lx_value (want_if (j := 3) (d := 74) (x := true) (y := true) rfl rfl (by decide) rfl) (mv_int (A1.at 13 rfl rfl)) ?_
   refine lx_value (want_if (j := 3) (d := 74) (x := true) (y := true) rfl rfl (by decide) rfl) (rn_eql rfl rfl) ?_
   refine lx_dec_t (rfl) ?_
   refine lx_value (want rfl) (pick_t rfl rfl) ?_
   refine lx_value (want rfl) (mv_bool rfl) ?_
   refine lx_value (want_if (j := 8) (d := 79) (x := true) (y := true) rfl rfl (by decide) rfl) (mv_string (A1.at 14 rfl rfl)) ?_
   refine lx_value (want_if (j := 8) (d := 79) (x := true) (y := true) rfl rfl (by decide) rfl) (mv_string (A1.at 16 rfl rfl)) ?_
   refine lx_value (want_if (j := 8) (d := 79) (x := true) (y := true) rfl rfl (by decide) rfl) (rn_eqlS rfl rfl) ?_
   refine lx_dec_t (rfl) ?_
   refine lx_value (want rfl) (pick_t rfl rfl) ?_
   refine lx_value (want rfl) (mv_bool rfl) ?_
   refine lx_value (want_if (j := 13) (d := 84) (x := true) (y := true) rfl rfl (by decide) rfl) (mv_int (A1.at 15 rfl rfl)) ?_
   refine lx_value (want_if (j := 13) (d := 84) (x := true) (y := true) rfl rfl (by decide) rfl) (mv_int (A1.at 17 rfl rfl)) ?_
   refine lx_value (want_if (j := 13) (d := 84) (x := true) (y := true) rfl rfl (by decide) rfl) (rn_eql rfl rfl) ?_
   refine lx_dec_t (rfl) ?_
   refine lx_value (want rfl) (pick_t rfl rfl) ?_
   refine lx_value (want rfl) (mv_bool rfl) ?_
   refine lx_value (want_if (j := 18) (d := 89) (x := true) (y := true) rfl rfl (by decide) rfl) (rn_loadBlk ag_45 sz_45 (A1.at 7 rfl rfl) (((((((((Bs1.ext E3).ext Eb3).ne Es2 (by omega)).ext E4).ext Eb4).ne Es3 (by omega)).ext E5).ext E6).ext EL1) rfl rfl) ?_
   refine lx_value (want_if (j := 18) (d := 89) (x := true) (y := true) rfl rfl (by decide) rfl) (rn_loadBlk ag_45 sz_45 (A1.at 3 rfl rfl) (((((((((((((B1.ext E1).ext E2).ext Eb2).ne Es1 (by omega)).ext E3).ext Eb3).ne Es2 (by omega)).ext E4).ext Eb4).ne Es3 (by omega)).ext E5).ext E6).ext EL1) rfl rfl) ?_
   refine lx_call (want_if (j := 18) (d := 89) (x := true) (y := true) rfl rfl (by decide) rfl) (ent_func cf_32 (argsC (t_agg rfl) (argsC (t_agg rfl) args0))) (samepic_ct p _ _ _ _ _ p sv cv sk ck G hBp w14 (hPV.fr (vl_stab _) (Fr.ext (Fr.ext (Fr.ext (Fr.trans (Fr.ext (Fr.ext (Fr.trans (Fr.ext (Fr.ext (Fr.trans (Fr.ext (Fr.refl (fun k => k = b2 ∨ k = b3 ∨ k = b4) w3) Eb2) Es1 (fun k _ h => (.inl h))) E3) Eb3) Es2 (fun k _ h => (.inr (.inl h)))) E4) Eb4) Es3 (fun k _ h => (.inr (.inr h)))) E5) E6) EL1) (fun k hk h => by have hk1 := hk.1; have hk2 := hk.2; (try dsimp only at h hk1 hk2); first | exact h.elim | omega | (rcases (show _ ∨ _ from h) with h | h <;> omega))) (hPC.fr (vv_stab _) (Fr.ext (Fr.ext (Fr.ext (Fr.trans (Fr.ext (Fr.ext (Fr.trans (Fr.ext (Fr.ext (Fr.trans (Fr.ext (Fr.refl (fun k => k = b2 ∨ k = b3 ∨ k = b4) w3) Eb2) Es1 (fun k _ h => (.inl h))) E3) Eb3) Es2 (fun k _ h => (.inr (.inl h)))) E4) Eb4) Es3 (fun k _ h => (.inr (.inr h)))) E5) E6) EL1) (fun k hk h => by have hk1 := hk.1; have hk2 := hk.2; (try dsimp only at h hk1 hk2); first | exact h.elim | omega | (rcases (show _ ∨ _ from h) with h | h <;> omega))) (hv.fr (vl_stab _) F14 (fun _ _ h => h)) (hk.fr (vv_stab _) F14 (fun _ _ h => h))) ?_
   rintro _ w15 E8 rfl
   have F16 := F14.ext E8
   have hz8 := E8.size
   refine lx_b_t (decide_eq_true rfl) ?_
   refine lx_value (want rfl) (pick_t rfl rfl) ?_
   refine lx_value (want rfl) (mv_bool rfl) ?_
   refine lx_call (want_if (j := 23) (d := 94) (x := true) (y := true) rfl rfl (by decide) rfl) (ent_func cf_19 args0) (awake_ct w15) ?_
   rintro _ w16 E9 rfl
   have F17 := F16.ext E9
   have hz9 := E9.size
   refine lx_value (want rfl) (pick_t rfl rfl) ?_
   refine lx_value (want rfl) (as_bool rfl) ?_
   refine lx_nil ?_
   refine wk_ret ?_
   refine retR1 Tryz.results10 (.tmp (t_bool rfl)) F17 ?_
   exact rfl
 ·
  refine lx_value (want rfl) (rn_not rfl) ?_
  refine lx_nil ?_
  refine wk_cond_t rfl ?_
  refine wk_seq ?_
  refine wk_region ?_
  refine lx_call (want rfl) (ent_func cf_19 args0) (awake_ct w2) ?_
  rintro _ w3 E10 rfl
  have F18 := F2.ext E10
  have hz10 := E10.size
  refine lx_value (want rfl) (as_bool rfl) ?_
  refine lx_nil ?_
  refine wk_ret ?_
  refine retR1 Tryz.results10 (.tmp (t_bool rfl)) F18 ?_
  exact rfl

end Go.Proofs.YtnhgfmbmfjmonaaGreatDoor

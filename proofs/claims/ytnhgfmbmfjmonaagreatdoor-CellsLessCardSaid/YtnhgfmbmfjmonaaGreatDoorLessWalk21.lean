/- What functions compute: cellsless. -/
import Derived.Test.YtnhgfmbmfjmonaaGreatDoorLessFacts
import Derived.Test.YtnhgfmbmfjmonaaGreatDoorLessPre
import Derived.Test.YtnhgfmbmfjmonaaGreatDoorLessWalk1
import Derived.Test.YtnhgfmbmfjmonaaGreatDoorLessWalk15
import Derived.Test.YtnhgfmbmfjmonaaGreatDoorLessWalk18
import Derived.Test.YtnhgfmbmfjmonaaGreatDoorLessWalk19
import Derived.Test.YtnhgfmbmfjmonaaGreatDoorLessWalk20
import Derived.Test.YtnhgfmbmfjmonaaGreatDoorLessWalk6
import Derived.Test.YtnhgfmbmfjmonaaGreatDoorLessWalk7
set_option maxRecDepth 100000
set_option linter.unusedVariables false
set_option linter.unusedSimpArgs false
namespace Go.Proofs.YtnhgfmbmfjmonaaGreatDoor
open Go Go.RowKit Go.Mix Go.Eng
set_option maxHeartbeats 4000000 in
set_option maxRecDepth 100000 in
theorem cellsless_ct (p : Pic) (sv : Option Addr) (cv : Nat) (sk : Option Addr) (ck : Nat) (G : Nat → Prop) (bits more : Nat) (hbits : bits < 4294967296) (hmore : more < 4294967296) (w0 : World) (hv : VlS G w0 sv p.1) (hk : VvS G w0 sk p.2) :
  CT Tryz.prog 13 [.agg #[.slice sv p.1.length cv, .slice sk p.2.length ck], .int .u32 (bits : Nat), .int .u32 (more : Nat)] w0 no (fun v _ => v = .bool true) := by
 have F0 := Fr.refl no w0
 refine ct_body Tryz.func13 rfl Tryz.ntmps13 (Nat.le_of_ble_eq_true rfl) ?_
 refine wk_seq ?_
 refine wk_region ?_
 refine lx_new (want rfl) (rn_box (t_agg rfl)) ?_
 intro b1 w1 hb1 Eb1 B1 hlb1
 have F1 := F0.ext Eb1
 have hzb1 := Eb1.size
 refine lx_value (want rfl) (as_bool rfl) ?_
 refine lx_nil ?_
 refine wk_seq ?_
 refine wk_seq ?_
 refine wk_region ?_
 refine lx_value (want rfl) (rn_loadBlk ag_45 sz_45 rfl B1 rfl rfl) ?_
 refine lx_call (want rfl) (ent_func cf_27 (argsC (t_agg rfl) args0)) (thinpic_ct p _ _ _ _ _ w1 (hv.fr (vl_stab _) F1 (fun _ _ h => h)) (hk.fr (vv_stab _) F1 (fun _ _ h => h))) ?_
 rintro _ w2 E1 rfl
 have F2 := F1.ext E1
 have hz1 := E1.size
 refine lx_split (fun ht => ?_) (fun ht => ?_)
 ·
  have hBp := (thinP_Bp ht).1
  refine lx_value (want rfl) (rn_not rfl) ?_
  refine lx_value (want rfl) (mv_bool rfl) ?_
  refine lx_value (want_if (j := 3) (d := 21) (x := false) (y := false) rfl rfl (by decide) rfl) (rn_loadBlk ag_45 sz_45 rfl (B1.ext E1) rfl rfl) ?_
  refine lx_call (want_if (j := 3) (d := 21) (x := false) (y := false) rfl rfl (by decide) rfl) (ent_func cf_34 (argsC (t_agg rfl) args0)) (refispic_ct p sv cv sk ck G hBp w2 (hv.fr (vl_stab _) F2 (fun _ _ h => h)) (hk.fr (vv_stab _) F2 (fun _ _ h => h))) ?_
  rintro _ w3 E2 rfl
  have F3 := F2.ext E2
  have hz2 := E2.size
  refine lx_split (fun hp => ?_) (fun hp => ?_)
  ·
   refine lx_value (want_if (j := 3) (d := 21) (x := false) (y := false) rfl rfl (by decide) rfl) (rn_not rfl) ?_
   refine lx_value (want rfl) (pick_f rfl rfl) ?_
   refine lx_nil ?_
   refine wk_cond_f rfl ?_
   refine wk_skip ?_
   refine wk_seq ?_
   refine wk_region ?_
   refine lx_value (want rfl) (rn_loadBlk ag_45 sz_45 rfl ((B1.ext E1).ext E2) rfl rfl) ?_
   refine lx_value (want rfl) (mv_int rfl) ?_
   refine lx_call (want rfl) (ent_func cf_60 (argsC (t_agg rfl) (argsC (t_int rfl) args0))) (masked_ct p sv cv sk ck G hBp hp bits w3 (hv.fr (vl_stab _) F3 (fun _ _ h => h)) (hk.fr (vv_stab _) F3 (fun _ _ h => h))) ?_
   rintro _ w4 E3 ⟨pva, rfl, sa1, sa2, sa3, sa4, rfl, hVa, hCa⟩
   have F4 := F3.ext E3
   have hz3 := E3.size
   refine lx_value (want rfl) (mv_tuple rfl) ?_
   refine lx_value (want rfl) (rn_extract rfl rfl) ?_
   refine lx_value (want rfl) (rn_extract rfl rfl) ?_
   refine lx_b_t (rfl) ?_
   refine lx_new (want rfl) (rn_alloc ze_45) ?_
   intro b2 w5 hb2 Eb2 B2 hlb2
   have F5 := F4.ext Eb2
   have hzb2 := Eb2.size
   refine lx_set (want rfl) sz_45 rfl (t_agg rfl) rfl rfl rfl B2 (Nat.le_of_ble_eq_true rfl) ?_
   intro w6 Es1 Bs1
   have F6 := F5.set Es1 (by omega)
   have hzs1 := Es1.size
   refine lx_value (want rfl) (as_bool rfl) ?_
   refine lx_nil ?_
   refine wk_seq ?_
   refine wk_region ?_
   refine lx_value (want rfl) (rn_loadBlk ag_45 sz_45 rfl (((((B1.ext E1).ext E2).ext E3).ext Eb2).ne Es1 (by omega)) rfl rfl) ?_
   refine lx_value (want rfl) (mv_int rfl) ?_
   refine lx_value (want rfl) (mv_int rfl) ?_
   refine lx_value (want rfl) (rn_or32 hbits hmore rfl rfl) ?_
   refine lx_call (want rfl) (ent_func cf_60 (argsC (t_agg rfl) (argsC (t_int rfl) args0))) (masked_ct p sv cv sk ck G hBp hp (bits ||| more) w6 (hv.fr (vl_stab _) F6 (fun _ _ h => h)) (hk.fr (vv_stab _) F6 (fun _ _ h => h))) ?_
   rintro _ w7 E4 ⟨pvb, rfl, sb1, sb2, sb3, sb4, rfl, hVb, hCb⟩
   have F7 := F6.ext E4
   have hz4 := E4.size
   refine lx_value (want rfl) (mv_tuple rfl) ?_
   refine lx_value (want rfl) (rn_extract rfl rfl) ?_
   refine lx_value (want rfl) (rn_extract rfl rfl) ?_
   refine lx_b_t (rfl) ?_
   refine lx_new (want rfl) (rn_alloc ze_45) ?_
   intro b3 w8 hb3 Eb3 B3 hlb3
   have F8 := F7.ext Eb3
   have hzb3 := Eb3.size
   refine lx_set (want rfl) sz_45 rfl (t_agg rfl) rfl rfl rfl B3 (Nat.le_of_ble_eq_true rfl) ?_
   intro w9 Es2 Bs2
   have F9 := F8.set Es2 (by omega)
   have hzs2 := Es2.size
   refine lx_value (want rfl) (as_bool rfl) ?_
   refine lx_nil ?_
   refine wk_seq ?_
   refine wk_seq ?_
   refine wk_region ?_
   refine lx_value (want rfl) (mv_bool rfl) ?_
   refine lx_value (want rfl) (rn_not rfl) ?_
   refine lx_value (want rfl) (mv_bool rfl) ?_
   refine lx_value (want_if (j := 2) (d := 43) (x := false) (y := false) rfl rfl (by decide) rfl) (mv_bool rfl) ?_
   refine lx_value (want_if (j := 2) (d := 43) (x := false) (y := false) rfl rfl (by decide) rfl) (rn_not rfl) ?_
   refine lx_value (want rfl) (pick_f rfl rfl) ?_
   refine lx_nil ?_
   refine wk_cond_f rfl ?_
   refine wk_skip ?_
   refine wk_seq ?_
   refine wk_region ?_
   refine lx_value (want rfl) (rn_loadBlk ag_45 sz_45 rfl Bs2 rfl rfl) ?_
   refine lx_value (want rfl) (rn_loadBlk ag_45 sz_45 rfl (((Bs1.ext E4).ext Eb3).ne Es2 (by omega)) rfl rfl) ?_
   refine lx_value (want rfl) (rn_loadBlk ag_45 sz_45 rfl ((((((((B1.ext E1).ext E2).ext E3).ext Eb2).ne Es1 (by omega)).ext E4).ext Eb3).ne Es2 (by omega)) rfl rfl) ?_
   refine lx_newS (want rfl) (rn_bslice (xs := [.tmp 47, .tmp 48, .tmp 49]) Tryz.underlying92 sz_45 ze_45 rfl (argsC (t_agg rfl) (argsC (t_agg rfl) (argsC (t_agg rfl) args0))) (CL.cons rfl rfl (CL.cons rfl rfl (CL.cons rfl rfl CL.nil))) rfl (Nat.le_of_ble_eq_true rfl)) ?_
   intro b4 w10 hb4 Eb4 B4 hlb4
   have F10 := F9.ext Eb4
   have hzb4 := Eb4.size
   refine lx_value (want rfl) (as_slice rfl) ?_
   refine lx_nil ?_
   refine wk_seq ?_
   refine wk_seq ?_
   refine wk_region ?_
   have hQ : PicS (fun _ => True) w10 (some ⟨b4, 0, none⟩) [picN bits more p 0, picN bits more p 1, picN bits more p 2] := by rw [picN_2 hp]; exact pc_three B4 ⟨((hVb.fr (vl_stab _) (Fr.ext (Fr.trans (Fr.ext (Fr.refl (fun k => k = b3) w7) Eb3) Es2 (fun k _ h => h)) Eb4) (fun k hk h => by have hk1 := hk.1; have hk2 := hk.2; (try dsimp only at h hk1 hk2); first | exact h.elim | omega | (rcases (show _ ∨ _ from h) with h | h <;> omega))).wide (fun _ _ => trivial)), (vv_wide (hCb.fr (vv_stab _) (Fr.ext (Fr.trans (Fr.ext (Fr.refl (fun k => k = b3) w7) Eb3) Es2 (fun k _ h => h)) Eb4) (fun k hk h => by have hk1 := hk.1; have hk2 := hk.2; (try dsimp only at h hk1 hk2); first | exact h.elim | omega | (rcases (show _ ∨ _ from h) with h | h <;> omega))) (fun _ _ => trivial))⟩ ⟨((hVa.fr (vl_stab _) (Fr.ext (Fr.trans (Fr.ext (Fr.ext (Fr.trans (Fr.ext (Fr.refl (fun k => k = b2 ∨ k = b3) w4) Eb2) Es1 (fun k _ h => (.inl h))) E4) Eb3) Es2 (fun k _ h => (.inr h))) Eb4) (fun k hk h => by have hk1 := hk.1; have hk2 := hk.2; (try dsimp only at h hk1 hk2); first | exact h.elim | omega | (rcases (show _ ∨ _ from h) with h | h <;> omega))).wide (fun _ _ => trivial)), (vv_wide (hCa.fr (vv_stab _) (Fr.ext (Fr.trans (Fr.ext (Fr.ext (Fr.trans (Fr.ext (Fr.refl (fun k => k = b2 ∨ k = b3) w4) Eb2) Es1 (fun k _ h => (.inl h))) E4) Eb3) Es2 (fun k _ h => (.inr h))) Eb4) (fun k hk h => by have hk1 := hk.1; have hk2 := hk.2; (try dsimp only at h hk1 hk2); first | exact h.elim | omega | (rcases (show _ ∨ _ from h) with h | h <;> omega))) (fun _ _ => trivial))⟩ ⟨(hv.fr (vl_stab _) F10 (fun _ _ h => h)).wide (fun _ _ => trivial), vv_wide (hk.fr (vv_stab _) F10 (fun _ _ h => h)) (fun _ _ => trivial)⟩
   refine lx_value (want rfl) (as_int rfl) ?_
   refine lx_nil ?_
   refine wk_block ?_
   refine wk_loopA [6, 12, 13, 14, 15, 16, 17, 51, 52, 53, 54, 55, 56, 57, 58, 59, 60, 61, 62, 63, 64, 65, 66, 67, 68, 69, 70, 71, 72, 73, 74, 75, 76, 77, 78, 79, 80, 81, 82, 83, 84, 85, 86, 87, 88, 89, 90, 91, 92, 93, 94, 95, 96, 97, 98, 99, 100, 101, 102, 103, 104, 105, 106, 107, 108, 109, 110, 111, 112, 113, 114, 115, 116, 117, 118, 119] no (fun nM ρ w => ∃ (i : Nat), nM = 3 - i ∧ ρ 12 = .int .i64 i ∧ (i ≤ 3)) _ ⟨0, rfl, rfl, by omega⟩ ?_
   rintro n1 ρ1 w11 A1 EL1 ⟨i, rfl, hs1_12, hi⟩
   have F11 := F10.ext EL1
   have hzL1 := EL1.size
   refine wk_seq ?_
   refine wk_seq ?_
   refine wk_region ?_
   refine lx_value (want rfl) (mv_int hs1_12) ?_
   refine lx_value (want rfl) (rn_lss rfl rfl) ?_
   refine lx_dec (fun hlt1 => ?_) (fun hlt1 => ?_)
   ·
    refine lx_nil ?_
    refine wk_cond_t rfl ?_
    refine wk_skip ?_
    refine wk_seq ?_
    refine wk_block ?_
    refine wk_seq ?_
    refine wk_region ?_
    refine lx_value (want rfl) (as_int rfl) ?_
    refine lx_nil ?_
    refine wk_block ?_
    refine wk_loopA [6, 13, 14, 15, 16, 17, 55, 56, 57, 58, 59, 60, 61, 62, 63, 64, 65, 66, 67, 68, 69, 70, 71, 72, 73, 74, 75, 76, 77, 78, 79, 80, 81, 82, 83, 84, 85, 86, 87, 88, 89, 90, 91, 92, 93, 94, 95, 96, 97, 98, 99, 100, 101, 102, 103, 104, 105, 106, 107, 108, 109, 110, 111, 112, 113, 114, 115, 116, 117, 118, 119] no (fun nM ρ w => ∃ (j : Nat), nM = 3 - j ∧ ρ 13 = .int .i64 j ∧ (j ≤ 3)) _ ⟨0, rfl, rfl, by omega⟩ ?_
    rintro n2 ρ2 w12 A2 EL2 ⟨j, rfl, hs2_13, hj⟩
    have F12 := F11.ext EL2
    have hzL2 := EL2.size
    refine wk_seq ?_
    refine wk_seq ?_
    refine wk_region ?_
    refine lx_value (want rfl) (mv_int hs2_13) ?_
    refine lx_value (want rfl) (rn_lss rfl rfl) ?_
    refine lx_dec (fun hlt2 => ?_) (fun hlt2 => ?_)
    ·
     refine lx_nil ?_
     refine wk_cond_t rfl ?_
     refine wk_skip ?_
     refine wk_seq ?_
     refine wk_block ?_
     refine wk_seq ?_
     have hQa := (hQ.fr (pc_stab _) (Fr.ext (Fr.ext (Fr.refl no w10) EL1) EL2) (fun _ _ h => h))
     obtain ⟨bxi, oxi, hsxi, _, x1, x2, x3, x4, x5, x6, x7, x8⟩ := hQa i _ (three_at (f := picN bits more p) hlt1)
     obtain ⟨rfl, rfl⟩ : b4 = bxi ∧ 0 = oxi := by injection hsxi with e; injection e with e1 e2; exact ⟨e1, e2⟩
     obtain ⟨bxj, oxj, hsxj, _, y1, y2, y3, y4, y5, y6, y7, y8⟩ := hQa j _ (three_at (f := picN bits more p) hlt2)
     obtain ⟨rfl, rfl⟩ : b4 = bxj ∧ 0 = oxj := by injection hsxj with e; injection e with e1 e2; exact ⟨e1, e2⟩
     refine wk_mix 15 (fun kS => match kS with | 4 => .any (fun I v w => PicI I w v (picN bits more p i)) | 9 => .any (fun I v w => PicI I w v (picN bits more p j)) | 10 => .val (.tuple #[.bool (belowD (picN bits more p i) (picN bits more p j)), .int .i64 0]) | _ => .none) (by kernel_rfl) (by kernel_rfl) (by intro kS G hk; (try dsimp only at hk); (split at hk) <;> first | (cases hk; done) | (injection hk with hk; subst hk; exact ⟨by intro j hkj I v w w' hR hG; first | exact hG | (exact hG.fr hR (fun _ _ h => h)) | (exact hG.fr hR (fun _ _ h => h)), fun ⟨_, _, _, _, hs⟩ => by (try dsimp only at hs); split at hs <;> cases hs⟩)) (by intro kS s y G hk; (try dsimp only at hk); split at hk <;> cases hk) ?_
     simp only [List.take_succ_cons, List.take_zero, List.take_nil, List.drop_succ_cons, List.drop_zero, List.drop_nil]
     refine mx_calm rfl (want rfl) (fun u1 eu1 fu1 => mv_slice (A2.at 11 rfl (A1.at 11 rfl rfl))) ?_
     refine mx_calm rfl (want rfl) (fun u2 eu2 fu2 => mv_int (A2.at 12 rfl hs1_12)) ?_
     refine mx_calm rfl (want rfl) (fun u3 eu3 fu3 => rn_index i Tryz.underlying92 sz_45 rfl rfl rfl (by omega)) ?_
     refine mx_calm rfl (want rfl) (fun u4 eu4 fu4 => rn_load2 ag_45 sz_45 rfl (((ext_drawn _).trans' eu4).cell (fun h => h) x5) (((ext_drawn _).trans' eu4).cell (fun h => h) x6)) ?_
     refine mx_any rfl rfl (want rfl) (fun u5 eu5 fu5 => do_call (ent_func cf_29 (argsC (t_agg rfl) args0)) (copypic_ct (picN bits more p i) x1 x2 x3 x4 _ (pic_Bp (picN_is hp i)) u5 (x7.fr (vl_stab _) ((ext_drawn _).trans' eu5) (fun _ _ h => h)) (x8.fr (vv_stab _) ((ext_drawn _).trans' eu5) (fun _ _ h => h))) (fun v w' E h => ⟨E, h⟩)) (fun I64 v64 => ?_)
     refine mx_calm rfl (want rfl) (fun u6 eu6 fu6 => mv_slice (A2.at 11 rfl (A1.at 11 rfl rfl))) ?_
     refine mx_calm rfl (want rfl) (fun u7 eu7 fu7 => mv_int hs2_13) ?_
     refine mx_calm rfl (want rfl) (fun u8 eu8 fu8 => rn_index j Tryz.underlying92 sz_45 rfl rfl rfl (by omega)) ?_
     refine mx_calm rfl (want rfl) (fun u9 eu9 fu9 => rn_load2 ag_45 sz_45 rfl (((ext_drawn _).trans' eu9).cell (fun h => h) y5) (((ext_drawn _).trans' eu9).cell (fun h => h) y6)) ?_
     refine mx_any rfl rfl (want rfl) (fun u10 eu10 fu10 => do_call (ent_func cf_29 (argsC (t_agg rfl) args0)) (copypic_ct (picN bits more p j) y1 y2 y3 y4 _ (pic_Bp (picN_is hp j)) u10 (y7.fr (vl_stab _) ((ext_drawn _).trans' eu10) (fun _ _ h => h)) (y8.fr (vv_stab _) ((ext_drawn _).trans' eu10) (fun _ _ h => h))) (fun v w' E h => ⟨E, h⟩)) (fun I69 v69 => ?_)
     refine mx_val rfl (want rfl) (fun u11 eu11 fu11 => by obtain ⟨e1, e2, e3, e4, rfl, e5, e6⟩ := fu11 64 _ rfl (show (64 : Nat) ∈ _ from by decide); obtain ⟨d1, d2, d3, d4, rfl, d5, d6⟩ := fu11 69 _ rfl (show (69 : Nat) ∈ _ from by decide); exact do_call (ent_func cf_57 (argsC (t_agg rfl) (argsC (t_agg rfl) args0))) (pBelow_ct (picN bits more p i) e1 e2 e3 e4 _ (pic_Bp (picN_is hp i)) (picN bits more p j) d1 d2 d3 d4 _ (pic_Bp (picN_is hp j)) u11 e5 e6 d5 d6) (fun _ _ E h => ⟨E, (by rw [belE_in (picN_is hp i) (picN_is hp j)] at h; exact h)⟩)) ?_
     refine mx_calm rfl (want rfl) (fun u12 eu12 fu12 => mv_tuple rfl) ?_
     refine mx_calm rfl (want rfl) (fun u13 eu13 fu13 => rn_extract rfl rfl) ?_
     refine mx_split (fun hd1 => ?_) (fun hd1 => ?_)
     ·
      refine mx_calm rfl (want rfl) (fun u14 eu14 fu14 => rn_extract rfl rfl) ?_
      refine mx_calm rfl (want rfl) (fun u15 eu15 fu15 => as_bool rfl) ?_
      refine mx_nil (fun w13 E5' H1 HS => ?_)
      have E5 := (ext_drawn _).trans' E5'
      have F13 := F12.ext E5
      have hz5 := E5.size
      have hI69 := (HS.1 69 _ rfl).2
      have hI64 := (HS.1 64 _ rfl).2
      have hX69_64 := HS.2 69 _ 64 _ rfl rfl (show (69 : Nat) ≠ 64 from by decide)
      simp only at hI69
      simp only at hI64
      simp only at hX69_64
      have g69 := H1 69 _ rfl
      have g64 := H1 64 _ rfl
      refine lx_value (want rfl) (as_int rfl) ?_
      refine lx_nil ?_
      refine wk_seq ?_
      have hQb := (hQ.fr (pc_stab _) (Fr.ext (Fr.ext (Fr.ext (Fr.refl no w10) EL1) EL2) E5) (fun _ _ h => h))
      obtain ⟨bxi, oxi, hsxi, _, x1, x2, x3, x4, x5, x6, x7, x8⟩ := hQb i _ (three_at (f := picN bits more p) hlt1)
      obtain ⟨rfl, rfl⟩ : b4 = bxi ∧ 0 = oxi := by injection hsxi with e; injection e with e1 e2; exact ⟨e1, e2⟩
      obtain ⟨bxj, oxj, hsxj, _, y1, y2, y3, y4, y5, y6, y7, y8⟩ := hQb j _ (three_at (f := picN bits more p) hlt2)
      obtain ⟨rfl, rfl⟩ : b4 = bxj ∧ 0 = oxj := by injection hsxj with e; injection e with e1 e2; exact ⟨e1, e2⟩
      refine wk_mix 15 (fun kS => match kS with | 4 => .any (fun I v w => PicI I w v (picN bits more p j)) | 9 => .any (fun I v w => PicI I w v (picN bits more p i)) | 10 => .val (.tuple #[.bool (belowD (picN bits more p j) (picN bits more p i)), .int .i64 0]) | _ => .none) (by kernel_rfl) (by kernel_rfl) (by intro kS G hk; (try dsimp only at hk); (split at hk) <;> first | (cases hk; done) | (injection hk with hk; subst hk; exact ⟨by intro j hkj I v w w' hR hG; first | exact hG | (exact hG.fr hR (fun _ _ h => h)) | (exact hG.fr hR (fun _ _ h => h)), fun ⟨_, _, _, _, hs⟩ => by (try dsimp only at hs); split at hs <;> cases hs⟩)) (by intro kS s y G hk; (try dsimp only at hk); split at hk <;> cases hk) ?_
      simp only [List.take_succ_cons, List.take_zero, List.take_nil, List.drop_succ_cons, List.drop_zero, List.drop_nil]
      refine mx_calm rfl (want rfl) (fun u16 eu16 fu16 => mv_slice (A2.at 11 rfl (A1.at 11 rfl rfl))) ?_
      refine mx_calm rfl (want rfl) (fun u17 eu17 fu17 => mv_int hs2_13) ?_
      refine mx_calm rfl (want rfl) (fun u18 eu18 fu18 => rn_index j Tryz.underlying92 sz_45 rfl rfl rfl (by omega)) ?_
      refine mx_calm rfl (want rfl) (fun u19 eu19 fu19 => rn_load2 ag_45 sz_45 rfl (((ext_drawn _).trans' eu19).cell (fun h => h) y5) (((ext_drawn _).trans' eu19).cell (fun h => h) y6)) ?_
      refine mx_any rfl rfl (want rfl) (fun u20 eu20 fu20 => do_call (ent_func cf_29 (argsC (t_agg rfl) args0)) (copypic_ct (picN bits more p j) y1 y2 y3 y4 _ (pic_Bp (picN_is hp j)) u20 (y7.fr (vl_stab _) ((ext_drawn _).trans' eu20) (fun _ _ h => h)) (y8.fr (vv_stab _) ((ext_drawn _).trans' eu20) (fun _ _ h => h))) (fun v w' E h => ⟨E, h⟩)) (fun I78 v78 => ?_)
      refine mx_calm rfl (want rfl) (fun u21 eu21 fu21 => mv_slice (A2.at 11 rfl (A1.at 11 rfl rfl))) ?_
      refine mx_calm rfl (want rfl) (fun u22 eu22 fu22 => mv_int (A2.at 12 rfl hs1_12)) ?_
      refine mx_calm rfl (want rfl) (fun u23 eu23 fu23 => rn_index i Tryz.underlying92 sz_45 rfl rfl rfl (by omega)) ?_
      refine mx_calm rfl (want rfl) (fun u24 eu24 fu24 => rn_load2 ag_45 sz_45 rfl (((ext_drawn _).trans' eu24).cell (fun h => h) x5) (((ext_drawn _).trans' eu24).cell (fun h => h) x6)) ?_
      refine mx_any rfl rfl (want rfl) (fun u25 eu25 fu25 => do_call (ent_func cf_29 (argsC (t_agg rfl) args0)) (copypic_ct (picN bits more p i) x1 x2 x3 x4 _ (pic_Bp (picN_is hp i)) u25 (x7.fr (vl_stab _) ((ext_drawn _).trans' eu25) (fun _ _ h => h)) (x8.fr (vv_stab _) ((ext_drawn _).trans' eu25) (fun _ _ h => h))) (fun v w' E h => ⟨E, h⟩)) (fun I83 v83 => ?_)
      refine mx_val rfl (want rfl) (fun u26 eu26 fu26 => by obtain ⟨e1, e2, e3, e4, rfl, e5, e6⟩ := fu26 78 _ rfl (show (78 : Nat) ∈ _ from by decide); obtain ⟨d1, d2, d3, d4, rfl, d5, d6⟩ := fu26 83 _ rfl (show (83 : Nat) ∈ _ from by decide); exact do_call (ent_func cf_57 (argsC (t_agg rfl) (argsC (t_agg rfl) args0))) (pBelow_ct (picN bits more p j) e1 e2 e3 e4 _ (pic_Bp (picN_is hp j)) (picN bits more p i) d1 d2 d3 d4 _ (pic_Bp (picN_is hp i)) u26 e5 e6 d5 d6) (fun _ _ E h => ⟨E, (by rw [belE_in (picN_is hp j) (picN_is hp i)] at h; exact h)⟩)) ?_
      refine mx_calm rfl (want rfl) (fun u27 eu27 fu27 => mv_tuple rfl) ?_
      refine mx_calm rfl (want rfl) (fun u28 eu28 fu28 => rn_extract rfl rfl) ?_
      refine mx_split (fun hd2 => ?_) (fun hd2 => ?_)
      ·
       refine mx_calm rfl (want rfl) (fun u29 eu29 fu29 => rn_extract rfl rfl) ?_
       refine mx_calm rfl (want rfl) (fun u30 eu30 fu30 => as_bool rfl) ?_
       refine mx_nil (fun w14 E6' H2 HS => ?_)
       have E6 := (ext_drawn _).trans' E6'
       have F14 := F13.ext E6
       have hz6 := E6.size
       have hI83 := (HS.1 83 _ rfl).2
       have hI78 := (HS.1 78 _ rfl).2
       have hX83_78 := HS.2 83 _ 78 _ rfl rfl (show (83 : Nat) ≠ 78 from by decide)
       simp only at hI83
       simp only at hI78
       simp only at hX83_78
       have g83 := H2 83 _ rfl
       have g78 := H2 78 _ rfl
       refine lx_value (want rfl) (as_int rfl) ?_
       refine lx_nil ?_
       refine wk_seq ?_
       have hQc := (hQ.fr (pc_stab _) (Fr.ext (Fr.ext (Fr.ext (Fr.ext (Fr.refl no w10) EL1) EL2) E5) E6) (fun _ _ h => h))
       obtain ⟨bxi, oxi, hsxi, _, x1, x2, x3, x4, x5, x6, x7, x8⟩ := hQc i _ (three_at (f := picN bits more p) hlt1)
       obtain ⟨rfl, rfl⟩ : b4 = bxi ∧ 0 = oxi := by injection hsxi with e; injection e with e1 e2; exact ⟨e1, e2⟩
       obtain ⟨bxj, oxj, hsxj, _, y1, y2, y3, y4, y5, y6, y7, y8⟩ := hQc j _ (three_at (f := picN bits more p) hlt2)
       obtain ⟨rfl, rfl⟩ : b4 = bxj ∧ 0 = oxj := by injection hsxj with e; injection e with e1 e2; exact ⟨e1, e2⟩
       refine wk_mix 29 (fun _ => .none) (by kernel_rfl) (by kernel_rfl) (fun kS G hk => by cases hk) (fun kS s y G hk => by cases hk) ?_
       simp only [List.take_succ_cons, List.take_zero, List.take_nil, List.drop_succ_cons, List.drop_zero, List.drop_nil]
       refine mx_calm rfl (want rfl) (fun u31 eu31 fu31 => mv_int rfl) ?_
       refine mx_calm rfl (want rfl) (fun u32 eu32 fu32 => rn_neq rfl rfl) ?_
       refine mx_dec_f ((fun h => h rfl)) ?_
       refine mx_calm rfl (want rfl) (fun u33 eu33 fu33 => mv_bool rfl) ?_
       refine mx_calm rfl (want_if (j := 2) (d := 89) (x := false) (y := false) rfl rfl (by decide) rfl) (fun u34 eu34 fu34 => mv_int rfl) ?_
       refine mx_calm rfl (want_if (j := 2) (d := 89) (x := false) (y := false) rfl rfl (by decide) rfl) (fun u35 eu35 fu35 => rn_neq rfl rfl) ?_
       refine mx_dec_f ((fun h => h rfl)) ?_
       refine mx_calm rfl (want rfl) (fun u36 eu36 fu36 => pick_f rfl rfl) ?_
       refine mx_calm rfl (want rfl) (fun u37 eu37 fu37 => mv_bool rfl) ?_
       refine mx_calm rfl (want_if (j := 6) (d := 93) (x := false) (y := false) rfl rfl (by decide) rfl) (fun u38 eu38 fu38 => mv_int (A2.at 12 rfl hs1_12)) ?_
       refine mx_calm rfl (want_if (j := 6) (d := 93) (x := false) (y := false) rfl rfl (by decide) rfl) (fun u39 eu39 fu39 => mv_int hs2_13) ?_
       refine mx_calm rfl (want_if (j := 6) (d := 93) (x := false) (y := false) rfl rfl (by decide) rfl) (fun u40 eu40 fu40 => rn_leq rfl rfl) ?_
       refine mx_dec (fun hij => ?_) (fun hij => ?_)
       ·
        refine mx_calm rfl (want_if (j := 6) (d := 93) (x := false) (y := false) rfl rfl (by decide) rfl) (fun u41 eu41 fu41 => mv_bool rfl) ?_
        refine mx_calm rfl (want_if (j := 10) (d := 97) (x := true) (y := true) rfl rfl (by decide) rfl) (fun u42 eu42 fu42 => mv_bool rfl) ?_
        refine mx_calm rfl (want_if (j := 10) (d := 97) (x := true) (y := true) rfl rfl (by decide) rfl) (fun u43 eu43 fu43 => rn_not rfl) ?_
        refine mx_calm rfl (want_if (j := 6) (d := 93) (x := false) (y := false) rfl rfl (by decide) rfl) (fun u44 eu44 fu44 => pick_t rfl rfl) ?_
        refine mx_calm rfl (want rfl) (fun u45 eu45 fu45 => pick_f rfl rfl) ?_
        refine mx_calm rfl (want rfl) (fun u46 eu46 fu46 => mv_bool rfl) ?_
        refine mx_calm rfl (want_if (j := 15) (d := 102) (x := false) (y := false) rfl rfl (by decide) rfl) (fun u47 eu47 fu47 => mv_bool rfl) ?_
        refine mx_calm rfl (want_if (j := 15) (d := 102) (x := false) (y := false) rfl rfl (by decide) rfl) (fun u48 eu48 fu48 => mv_bool rfl) ?_
        refine mx_calm rfl (want_if (j := 17) (d := 104) (x := true) (y := true) rfl rfl (by decide) rfl) (fun u49 eu49 fu49 => mv_bool rfl) ?_
        refine mx_calm rfl (want_if (j := 15) (d := 102) (x := false) (y := false) rfl rfl (by decide) rfl) (fun u50 eu50 fu50 => pick_t rfl rfl) ?_
        refine mx_calm rfl (want_if (j := 15) (d := 102) (x := false) (y := false) rfl rfl (by decide) rfl) (fun u51 eu51 fu51 => mv_bool rfl) ?_
        refine mx_calm rfl (want_if (j := 20) (d := 107) (x := true) (y := true) rfl rfl (by decide) rfl) (fun u52 eu52 fu52 => mv_slice (A2.at 11 rfl (A1.at 11 rfl rfl))) ?_
        refine mx_calm rfl (want_if (j := 20) (d := 107) (x := true) (y := true) rfl rfl (by decide) rfl) (fun u53 eu53 fu53 => mv_int (A2.at 12 rfl hs1_12)) ?_
        refine mx_calm rfl (want_if (j := 20) (d := 107) (x := true) (y := true) rfl rfl (by decide) rfl) (fun u54 eu54 fu54 => rn_index i Tryz.underlying92 sz_45 rfl rfl rfl (by omega)) ?_
        refine mx_calm rfl (want_if (j := 20) (d := 107) (x := true) (y := true) rfl rfl (by decide) rfl) (fun u55 eu55 fu55 => rn_load2 ag_45 sz_45 rfl (((ext_drawn _).trans' eu55).cell (fun h => h) x5) (((ext_drawn _).trans' eu55).cell (fun h => h) x6)) ?_
        refine mx_calm rfl (want_if (j := 20) (d := 107) (x := true) (y := true) rfl rfl (by decide) rfl) (fun u56 eu56 fu56 => mv_slice (A2.at 11 rfl (A1.at 11 rfl rfl))) ?_
        refine mx_calm rfl (want_if (j := 20) (d := 107) (x := true) (y := true) rfl rfl (by decide) rfl) (fun u57 eu57 fu57 => mv_int hs2_13) ?_
        refine mx_calm rfl (want_if (j := 20) (d := 107) (x := true) (y := true) rfl rfl (by decide) rfl) (fun u58 eu58 fu58 => rn_index j Tryz.underlying92 sz_45 rfl rfl rfl (by omega)) ?_
        refine mx_calm rfl (want_if (j := 20) (d := 107) (x := true) (y := true) rfl rfl (by decide) rfl) (fun u59 eu59 fu59 => rn_load2 ag_45 sz_45 rfl (((ext_drawn _).trans' eu59).cell (fun h => h) y5) (((ext_drawn _).trans' eu59).cell (fun h => h) y6)) ?_
        refine mx_nil (fun w15 E7' H3 HS => ?_)
        have E7 := (ext_drawn _).trans' E7'
        have F15 := F14.ext E7
        have hz7 := E7.size
        refine lx_call (want_if (j := 20) (d := 107) (x := true) (y := true) rfl rfl (by decide) rfl) (ent_func cf_32 (argsC (t_agg rfl) (argsC (t_agg rfl) args0))) (samepic_ct (picN bits more p i) x1 x2 x3 x4 _ (picN bits more p j) y1 y2 y3 y4 _ (pic_Bp (picN_is hp j)) w15 (x7.fr (vl_stab _) (Fr.ext (Fr.refl no w14) E7) (fun _ _ h => h)) (x8.fr (vv_stab _) (Fr.ext (Fr.refl no w14) E7) (fun _ _ h => h)) (y7.fr (vl_stab _) (Fr.ext (Fr.refl no w14) E7) (fun _ _ h => h)) (y8.fr (vv_stab _) (Fr.ext (Fr.refl no w14) E7) (fun _ _ h => h))) ?_
        rintro _ w16 E8 rfl
        have F16 := F15.ext E8
        have hz8 := E8.size
        refine lx_b_t ((decide_eq_true (pic_anti (picN_is hp i) (picN_is hp j) hd1 hd2))) ?_
        refine lx_value (want_if (j := 20) (d := 107) (x := true) (y := true) rfl rfl (by decide) rfl) (rn_not rfl) ?_
        refine lx_value (want_if (j := 15) (d := 102) (x := false) (y := false) rfl rfl (by decide) rfl) (pick_t rfl rfl) ?_
        refine lx_value (want rfl) (pick_f rfl rfl) ?_
        refine lx_nil ?_
        refine wk_cond_f rfl ?_
        refine wk_skip ?_
        refine wk_region ?_
        refine lx_value (want rfl) (mv_int hs2_13) ?_
        refine lx_value (want rfl) (rn_add rfl rfl (by omega)) ?_
        refine lx_value (want rfl) (as_int rfl) ?_
        refine lx_nil ?_
        exact ⟨rfl, ((((((((((((((((((((((((((((((((((((((((((((((((((((((((((((((((((((((A2.up rfl _).up rfl _).up rfl _).up rfl _).up rfl _).up rfl _).up rfl _).up rfl _).up rfl _).up rfl _).up rfl _).up rfl _).up rfl _).up rfl _).up rfl _).up rfl _).up rfl _).up rfl _).up rfl _).up rfl _).up rfl _).up rfl _).up rfl _).up rfl _).up rfl _).up rfl _).up rfl _).up rfl _).up rfl _).up rfl _).up rfl _).up rfl _).up rfl _).up rfl _).up rfl _).up rfl _).up rfl _).up rfl _).up rfl _).up rfl _).up rfl _).up rfl _).up rfl _).up rfl _).up rfl _).up rfl _).up rfl _).up rfl _).up rfl _).up rfl _).up rfl _).up rfl _).up rfl _).up rfl _).up rfl _).up rfl _).up rfl _).up rfl _).up rfl _).up rfl _).up rfl _).up rfl _).up rfl _).up rfl _).up rfl _).up rfl _).up rfl _).up rfl _).up rfl _).up rfl _), (Fr.ext (Fr.ext (Fr.ext (Fr.ext EL2 E5) E6) E7) E8), _, (by omega), j + 1, rfl, rfl, by omega⟩
       ·
        refine mx_calm rfl (want_if (j := 6) (d := 93) (x := false) (y := false) rfl rfl (by decide) rfl) (fun u60 eu60 fu60 => mv_bool rfl) ?_
        refine mx_skip (want_if (j := 10) (d := 97) (x := true) (y := false) rfl rfl (by decide) rfl) ?_
        refine mx_skip (want_if (j := 10) (d := 97) (x := true) (y := false) rfl rfl (by decide) rfl) ?_
        refine mx_calm rfl (want_if (j := 6) (d := 93) (x := false) (y := false) rfl rfl (by decide) rfl) (fun u61 eu61 fu61 => pick_f rfl rfl) ?_
        refine mx_calm rfl (want rfl) (fun u62 eu62 fu62 => pick_f rfl rfl) ?_
        refine mx_calm rfl (want rfl) (fun u63 eu63 fu63 => mv_bool rfl) ?_
        refine mx_calm rfl (want_if (j := 15) (d := 102) (x := false) (y := false) rfl rfl (by decide) rfl) (fun u64 eu64 fu64 => mv_bool rfl) ?_
        refine mx_calm rfl (want_if (j := 15) (d := 102) (x := false) (y := false) rfl rfl (by decide) rfl) (fun u65 eu65 fu65 => mv_bool rfl) ?_
        refine mx_calm rfl (want_if (j := 17) (d := 104) (x := true) (y := true) rfl rfl (by decide) rfl) (fun u66 eu66 fu66 => mv_bool rfl) ?_
        refine mx_calm rfl (want_if (j := 15) (d := 102) (x := false) (y := false) rfl rfl (by decide) rfl) (fun u67 eu67 fu67 => pick_t rfl rfl) ?_
        refine mx_calm rfl (want_if (j := 15) (d := 102) (x := false) (y := false) rfl rfl (by decide) rfl) (fun u68 eu68 fu68 => mv_bool rfl) ?_
        refine mx_calm rfl (want_if (j := 20) (d := 107) (x := true) (y := true) rfl rfl (by decide) rfl) (fun u69 eu69 fu69 => mv_slice (A2.at 11 rfl (A1.at 11 rfl rfl))) ?_
        refine mx_calm rfl (want_if (j := 20) (d := 107) (x := true) (y := true) rfl rfl (by decide) rfl) (fun u70 eu70 fu70 => mv_int (A2.at 12 rfl hs1_12)) ?_
        refine mx_calm rfl (want_if (j := 20) (d := 107) (x := true) (y := true) rfl rfl (by decide) rfl) (fun u71 eu71 fu71 => rn_index i Tryz.underlying92 sz_45 rfl rfl rfl (by omega)) ?_
        refine mx_calm rfl (want_if (j := 20) (d := 107) (x := true) (y := true) rfl rfl (by decide) rfl) (fun u72 eu72 fu72 => rn_load2 ag_45 sz_45 rfl (((ext_drawn _).trans' eu72).cell (fun h => h) x5) (((ext_drawn _).trans' eu72).cell (fun h => h) x6)) ?_
        refine mx_calm rfl (want_if (j := 20) (d := 107) (x := true) (y := true) rfl rfl (by decide) rfl) (fun u73 eu73 fu73 => mv_slice (A2.at 11 rfl (A1.at 11 rfl rfl))) ?_
        refine mx_calm rfl (want_if (j := 20) (d := 107) (x := true) (y := true) rfl rfl (by decide) rfl) (fun u74 eu74 fu74 => mv_int hs2_13) ?_
        refine mx_calm rfl (want_if (j := 20) (d := 107) (x := true) (y := true) rfl rfl (by decide) rfl) (fun u75 eu75 fu75 => rn_index j Tryz.underlying92 sz_45 rfl rfl rfl (by omega)) ?_
        refine mx_calm rfl (want_if (j := 20) (d := 107) (x := true) (y := true) rfl rfl (by decide) rfl) (fun u76 eu76 fu76 => rn_load2 ag_45 sz_45 rfl (((ext_drawn _).trans' eu76).cell (fun h => h) y5) (((ext_drawn _).trans' eu76).cell (fun h => h) y6)) ?_
        refine mx_nil (fun w15 E9' H4 HS => ?_)
        have E9 := (ext_drawn _).trans' E9'
        have F17 := F14.ext E9
        have hz9 := E9.size
        refine lx_call (want_if (j := 20) (d := 107) (x := true) (y := true) rfl rfl (by decide) rfl) (ent_func cf_32 (argsC (t_agg rfl) (argsC (t_agg rfl) args0))) (samepic_ct (picN bits more p i) x1 x2 x3 x4 _ (picN bits more p j) y1 y2 y3 y4 _ (pic_Bp (picN_is hp j)) w15 (x7.fr (vl_stab _) (Fr.ext (Fr.refl no w14) E9) (fun _ _ h => h)) (x8.fr (vv_stab _) (Fr.ext (Fr.refl no w14) E9) (fun _ _ h => h)) (y7.fr (vl_stab _) (Fr.ext (Fr.refl no w14) E9) (fun _ _ h => h)) (y8.fr (vv_stab _) (Fr.ext (Fr.refl no w14) E9) (fun _ _ h => h))) ?_
        rintro _ w16 E10 rfl
        have F18 := F17.ext E10
        have hz10 := E10.size
        refine lx_b_t ((decide_eq_true (pic_anti (picN_is hp i) (picN_is hp j) hd1 hd2))) ?_
        refine lx_value (want_if (j := 20) (d := 107) (x := true) (y := true) rfl rfl (by decide) rfl) (rn_not rfl) ?_
        refine lx_value (want_if (j := 15) (d := 102) (x := false) (y := false) rfl rfl (by decide) rfl) (pick_t rfl rfl) ?_
        refine lx_value (want rfl) (pick_f rfl rfl) ?_
        refine lx_nil ?_
        refine wk_cond_f rfl ?_
        refine wk_skip ?_
        refine wk_region ?_
        refine lx_value (want rfl) (mv_int hs2_13) ?_
        refine lx_value (want rfl) (rn_add rfl rfl (by omega)) ?_
        refine lx_value (want rfl) (as_int rfl) ?_
        refine lx_nil ?_
        exact ⟨rfl, ((((((((((((((((((((((((((((((((((((((((((((((((((((((((((((((((((((((A2.up rfl _).up rfl _).up rfl _).up rfl _).up rfl _).up rfl _).up rfl _).up rfl _).up rfl _).up rfl _).up rfl _).up rfl _).up rfl _).up rfl _).up rfl _).up rfl _).up rfl _).up rfl _).up rfl _).up rfl _).up rfl _).up rfl _).up rfl _).up rfl _).up rfl _).up rfl _).up rfl _).up rfl _).up rfl _).up rfl _).up rfl _).up rfl _).up rfl _).up rfl _).up rfl _).up rfl _).up rfl _).up rfl _).up rfl _).up rfl _).up rfl _).up rfl _).up rfl _).up rfl _).up rfl _).up rfl _).up rfl _).up rfl _).up rfl _).up rfl _).up rfl _).up rfl _).up rfl _).up rfl _).up rfl _).up rfl _).up rfl _).up rfl _).up rfl _).up rfl _).up rfl _).up rfl _).up rfl _).up rfl _).up rfl _).up rfl _).up rfl _).up rfl _).up rfl _).up rfl _), (Fr.ext (Fr.ext (Fr.ext (Fr.ext EL2 E5) E6) E9) E10), _, (by omega), j + 1, rfl, rfl, by omega⟩
      ·
       refine mx_calm rfl (want rfl) (fun u77 eu77 fu77 => rn_extract rfl rfl) ?_
       refine mx_calm rfl (want rfl) (fun u78 eu78 fu78 => as_bool rfl) ?_
       refine mx_nil (fun w14 E11' H5 HS => ?_)
       have E11 := (ext_drawn _).trans' E11'
       have F19 := F13.ext E11
       have hz11 := E11.size
       have hI83 := (HS.1 83 _ rfl).2
       have hI78 := (HS.1 78 _ rfl).2
       have hX83_78 := HS.2 83 _ 78 _ rfl rfl (show (83 : Nat) ≠ 78 from by decide)
       simp only at hI83
       simp only at hI78
       simp only at hX83_78
       have g83 := H5 83 _ rfl
       have g78 := H5 78 _ rfl
       refine lx_value (want rfl) (as_int rfl) ?_
       refine lx_nil ?_
       refine wk_seq ?_
       have hQc := (hQ.fr (pc_stab _) (Fr.ext (Fr.ext (Fr.ext (Fr.ext (Fr.refl no w10) EL1) EL2) E5) E11) (fun _ _ h => h))
       obtain ⟨bxi, oxi, hsxi, _, x1, x2, x3, x4, x5, x6, x7, x8⟩ := hQc i _ (three_at (f := picN bits more p) hlt1)
       obtain ⟨rfl, rfl⟩ : b4 = bxi ∧ 0 = oxi := by injection hsxi with e; injection e with e1 e2; exact ⟨e1, e2⟩
       obtain ⟨bxj, oxj, hsxj, _, y1, y2, y3, y4, y5, y6, y7, y8⟩ := hQc j _ (three_at (f := picN bits more p) hlt2)
       obtain ⟨rfl, rfl⟩ : b4 = bxj ∧ 0 = oxj := by injection hsxj with e; injection e with e1 e2; exact ⟨e1, e2⟩
       refine wk_mix 29 (fun _ => .none) (by kernel_rfl) (by kernel_rfl) (fun kS G hk => by cases hk) (fun kS s y G hk => by cases hk) ?_
       simp only [List.take_succ_cons, List.take_zero, List.take_nil, List.drop_succ_cons, List.drop_zero, List.drop_nil]
       refine mx_calm rfl (want rfl) (fun u79 eu79 fu79 => mv_int rfl) ?_
       refine mx_calm rfl (want rfl) (fun u80 eu80 fu80 => rn_neq rfl rfl) ?_
       refine mx_dec_f ((fun h => h rfl)) ?_
       refine mx_calm rfl (want rfl) (fun u81 eu81 fu81 => mv_bool rfl) ?_
       refine mx_calm rfl (want_if (j := 2) (d := 89) (x := false) (y := false) rfl rfl (by decide) rfl) (fun u82 eu82 fu82 => mv_int rfl) ?_
       refine mx_calm rfl (want_if (j := 2) (d := 89) (x := false) (y := false) rfl rfl (by decide) rfl) (fun u83 eu83 fu83 => rn_neq rfl rfl) ?_
       refine mx_dec_f ((fun h => h rfl)) ?_
       refine mx_calm rfl (want rfl) (fun u84 eu84 fu84 => pick_f rfl rfl) ?_
       refine mx_calm rfl (want rfl) (fun u85 eu85 fu85 => mv_bool rfl) ?_
       refine mx_calm rfl (want_if (j := 6) (d := 93) (x := false) (y := false) rfl rfl (by decide) rfl) (fun u86 eu86 fu86 => mv_int (A2.at 12 rfl hs1_12)) ?_
       refine mx_calm rfl (want_if (j := 6) (d := 93) (x := false) (y := false) rfl rfl (by decide) rfl) (fun u87 eu87 fu87 => mv_int hs2_13) ?_
       refine mx_calm rfl (want_if (j := 6) (d := 93) (x := false) (y := false) rfl rfl (by decide) rfl) (fun u88 eu88 fu88 => rn_leq rfl rfl) ?_
       refine mx_dec (fun hij => ?_) (fun hij => ?_)
       ·
        refine mx_calm rfl (want_if (j := 6) (d := 93) (x := false) (y := false) rfl rfl (by decide) rfl) (fun u89 eu89 fu89 => mv_bool rfl) ?_
        refine mx_calm rfl (want_if (j := 10) (d := 97) (x := true) (y := true) rfl rfl (by decide) rfl) (fun u90 eu90 fu90 => mv_bool rfl) ?_
        refine mx_calm rfl (want_if (j := 10) (d := 97) (x := true) (y := true) rfl rfl (by decide) rfl) (fun u91 eu91 fu91 => rn_not rfl) ?_
        refine mx_calm rfl (want_if (j := 6) (d := 93) (x := false) (y := false) rfl rfl (by decide) rfl) (fun u92 eu92 fu92 => pick_t rfl rfl) ?_
        refine mx_calm rfl (want rfl) (fun u93 eu93 fu93 => pick_f rfl rfl) ?_
        refine mx_calm rfl (want rfl) (fun u94 eu94 fu94 => mv_bool rfl) ?_
        refine mx_calm rfl (want_if (j := 15) (d := 102) (x := false) (y := false) rfl rfl (by decide) rfl) (fun u95 eu95 fu95 => mv_bool rfl) ?_
        refine mx_calm rfl (want_if (j := 15) (d := 102) (x := false) (y := false) rfl rfl (by decide) rfl) (fun u96 eu96 fu96 => mv_bool rfl) ?_
        refine mx_calm rfl (want_if (j := 17) (d := 104) (x := true) (y := true) rfl rfl (by decide) rfl) (fun u97 eu97 fu97 => mv_bool rfl) ?_
        refine mx_calm rfl (want_if (j := 15) (d := 102) (x := false) (y := false) rfl rfl (by decide) rfl) (fun u98 eu98 fu98 => pick_t rfl rfl) ?_
        refine mx_calm rfl (want_if (j := 15) (d := 102) (x := false) (y := false) rfl rfl (by decide) rfl) (fun u99 eu99 fu99 => mv_bool rfl) ?_
        refine mx_skip (want_if (j := 20) (d := 107) (x := true) (y := false) rfl rfl (by decide) rfl) ?_
        refine mx_skip (want_if (j := 20) (d := 107) (x := true) (y := false) rfl rfl (by decide) rfl) ?_
        refine mx_skip (want_if (j := 20) (d := 107) (x := true) (y := false) rfl rfl (by decide) rfl) ?_
        refine mx_skip (want_if (j := 20) (d := 107) (x := true) (y := false) rfl rfl (by decide) rfl) ?_
        refine mx_skip (want_if (j := 20) (d := 107) (x := true) (y := false) rfl rfl (by decide) rfl) ?_
        refine mx_skip (want_if (j := 20) (d := 107) (x := true) (y := false) rfl rfl (by decide) rfl) ?_
        refine mx_skip (want_if (j := 20) (d := 107) (x := true) (y := false) rfl rfl (by decide) rfl) ?_
        refine mx_skip (want_if (j := 20) (d := 107) (x := true) (y := false) rfl rfl (by decide) rfl) ?_
        refine mx_nil (fun w15 E12' H6 HS => ?_)
        have E12 := (ext_drawn _).trans' E12'
        have F20 := F19.ext E12
        have hz12 := E12.size
        refine lx_skip (want_if (j := 20) (d := 107) (x := true) (y := false) rfl rfl (by decide) rfl) ?_
        refine lx_skip (want_if (j := 20) (d := 107) (x := true) (y := false) rfl rfl (by decide) rfl) ?_
        refine lx_value (want_if (j := 15) (d := 102) (x := false) (y := false) rfl rfl (by decide) rfl) (pick_f rfl rfl) ?_
        refine lx_value (want rfl) (pick_f rfl rfl) ?_
        refine lx_nil ?_
        refine wk_cond_f rfl ?_
        refine wk_skip ?_
        refine wk_region ?_
        refine lx_value (want rfl) (mv_int hs2_13) ?_
        refine lx_value (want rfl) (rn_add rfl rfl (by omega)) ?_
        refine lx_value (want rfl) (as_int rfl) ?_
        refine lx_nil ?_
        exact ⟨rfl, ((((((((((((((((((((((((((((((((((((((((((((((((((((((((((((((((((((((A2.up rfl _).up rfl _).up rfl _).up rfl _).up rfl _).up rfl _).up rfl _).up rfl _).up rfl _).up rfl _).up rfl _).up rfl _).up rfl _).up rfl _).up rfl _).up rfl _).up rfl _).up rfl _).up rfl _).up rfl _).up rfl _).up rfl _).up rfl _).up rfl _).up rfl _).up rfl _).up rfl _).up rfl _).up rfl _).up rfl _).up rfl _).up rfl _).up rfl _).up rfl _).up rfl _).up rfl _).up rfl _).up rfl _).up rfl _).up rfl _).up rfl _).up rfl _).up rfl _).up rfl _).up rfl _).up rfl _).up rfl _).up rfl _).up rfl _).up rfl _).up rfl _).up rfl _).up rfl _).up rfl _).up rfl _).up rfl _).up rfl _).up rfl _).up rfl _).up rfl _).up rfl _).up rfl _).up rfl _).up rfl _).up rfl _).up rfl _).up rfl _).up rfl _).up rfl _).up rfl _), (Fr.ext (Fr.ext (Fr.ext EL2 E5) E11) E12), _, (by omega), j + 1, rfl, rfl, by omega⟩
       ·
        refine mx_calm rfl (want_if (j := 6) (d := 93) (x := false) (y := false) rfl rfl (by decide) rfl) (fun u100 eu100 fu100 => mv_bool rfl) ?_
        refine mx_skip (want_if (j := 10) (d := 97) (x := true) (y := false) rfl rfl (by decide) rfl) ?_
        refine mx_skip (want_if (j := 10) (d := 97) (x := true) (y := false) rfl rfl (by decide) rfl) ?_
        refine mx_calm rfl (want_if (j := 6) (d := 93) (x := false) (y := false) rfl rfl (by decide) rfl) (fun u101 eu101 fu101 => pick_f rfl rfl) ?_
        refine mx_calm rfl (want rfl) (fun u102 eu102 fu102 => pick_f rfl rfl) ?_
        refine mx_calm rfl (want rfl) (fun u103 eu103 fu103 => mv_bool rfl) ?_
        refine mx_calm rfl (want_if (j := 15) (d := 102) (x := false) (y := false) rfl rfl (by decide) rfl) (fun u104 eu104 fu104 => mv_bool rfl) ?_
        refine mx_calm rfl (want_if (j := 15) (d := 102) (x := false) (y := false) rfl rfl (by decide) rfl) (fun u105 eu105 fu105 => mv_bool rfl) ?_
        refine mx_calm rfl (want_if (j := 17) (d := 104) (x := true) (y := true) rfl rfl (by decide) rfl) (fun u106 eu106 fu106 => mv_bool rfl) ?_
        refine mx_calm rfl (want_if (j := 15) (d := 102) (x := false) (y := false) rfl rfl (by decide) rfl) (fun u107 eu107 fu107 => pick_t rfl rfl) ?_
        refine mx_calm rfl (want_if (j := 15) (d := 102) (x := false) (y := false) rfl rfl (by decide) rfl) (fun u108 eu108 fu108 => mv_bool rfl) ?_
        refine mx_skip (want_if (j := 20) (d := 107) (x := true) (y := false) rfl rfl (by decide) rfl) ?_
        refine mx_skip (want_if (j := 20) (d := 107) (x := true) (y := false) rfl rfl (by decide) rfl) ?_
        refine mx_skip (want_if (j := 20) (d := 107) (x := true) (y := false) rfl rfl (by decide) rfl) ?_
        refine mx_skip (want_if (j := 20) (d := 107) (x := true) (y := false) rfl rfl (by decide) rfl) ?_
        refine mx_skip (want_if (j := 20) (d := 107) (x := true) (y := false) rfl rfl (by decide) rfl) ?_
        refine mx_skip (want_if (j := 20) (d := 107) (x := true) (y := false) rfl rfl (by decide) rfl) ?_
        refine mx_skip (want_if (j := 20) (d := 107) (x := true) (y := false) rfl rfl (by decide) rfl) ?_
        refine mx_skip (want_if (j := 20) (d := 107) (x := true) (y := false) rfl rfl (by decide) rfl) ?_
        refine mx_nil (fun w15 E13' H7 HS => ?_)
        have E13 := (ext_drawn _).trans' E13'
        have F21 := F19.ext E13
        have hz13 := E13.size
        refine lx_skip (want_if (j := 20) (d := 107) (x := true) (y := false) rfl rfl (by decide) rfl) ?_
        refine lx_skip (want_if (j := 20) (d := 107) (x := true) (y := false) rfl rfl (by decide) rfl) ?_
        refine lx_value (want_if (j := 15) (d := 102) (x := false) (y := false) rfl rfl (by decide) rfl) (pick_f rfl rfl) ?_
        refine lx_value (want rfl) (pick_f rfl rfl) ?_
        refine lx_nil ?_
        refine wk_cond_f rfl ?_
        refine wk_skip ?_
        refine wk_region ?_
        refine lx_value (want rfl) (mv_int hs2_13) ?_
        refine lx_value (want rfl) (rn_add rfl rfl (by omega)) ?_
        refine lx_value (want rfl) (as_int rfl) ?_
        refine lx_nil ?_
        exact ⟨rfl, ((((((((((((((((((((((((((((((((((((((((((((((((((((((((((((((((((((((A2.up rfl _).up rfl _).up rfl _).up rfl _).up rfl _).up rfl _).up rfl _).up rfl _).up rfl _).up rfl _).up rfl _).up rfl _).up rfl _).up rfl _).up rfl _).up rfl _).up rfl _).up rfl _).up rfl _).up rfl _).up rfl _).up rfl _).up rfl _).up rfl _).up rfl _).up rfl _).up rfl _).up rfl _).up rfl _).up rfl _).up rfl _).up rfl _).up rfl _).up rfl _).up rfl _).up rfl _).up rfl _).up rfl _).up rfl _).up rfl _).up rfl _).up rfl _).up rfl _).up rfl _).up rfl _).up rfl _).up rfl _).up rfl _).up rfl _).up rfl _).up rfl _).up rfl _).up rfl _).up rfl _).up rfl _).up rfl _).up rfl _).up rfl _).up rfl _).up rfl _).up rfl _).up rfl _).up rfl _).up rfl _).up rfl _).up rfl _).up rfl _).up rfl _).up rfl _).up rfl _), (Fr.ext (Fr.ext (Fr.ext EL2 E5) E11) E13), _, (by omega), j + 1, rfl, rfl, by omega⟩
     ·
      refine mx_calm rfl (want rfl) (fun u109 eu109 fu109 => rn_extract rfl rfl) ?_
      refine mx_calm rfl (want rfl) (fun u110 eu110 fu110 => as_bool rfl) ?_
      refine mx_nil (fun w13 E14' H8 HS => ?_)
      have E14 := (ext_drawn _).trans' E14'
      have F22 := F12.ext E14
      have hz14 := E14.size
      have hI69 := (HS.1 69 _ rfl).2
      have hI64 := (HS.1 64 _ rfl).2
      have hX69_64 := HS.2 69 _ 64 _ rfl rfl (show (69 : Nat) ≠ 64 from by decide)
      simp only at hI69
      simp only at hI64
      simp only at hX69_64
      have g69 := H8 69 _ rfl
      have g64 := H8 64 _ rfl
      refine lx_value (want rfl) (as_int rfl) ?_
      refine lx_nil ?_
      refine wk_seq ?_
      have hQb := (hQ.fr (pc_stab _) (Fr.ext (Fr.ext (Fr.ext (Fr.refl no w10) EL1) EL2) E14) (fun _ _ h => h))
      obtain ⟨bxi, oxi, hsxi, _, x1, x2, x3, x4, x5, x6, x7, x8⟩ := hQb i _ (three_at (f := picN bits more p) hlt1)
      obtain ⟨rfl, rfl⟩ : b4 = bxi ∧ 0 = oxi := by injection hsxi with e; injection e with e1 e2; exact ⟨e1, e2⟩
      obtain ⟨bxj, oxj, hsxj, _, y1, y2, y3, y4, y5, y6, y7, y8⟩ := hQb j _ (three_at (f := picN bits more p) hlt2)
      obtain ⟨rfl, rfl⟩ : b4 = bxj ∧ 0 = oxj := by injection hsxj with e; injection e with e1 e2; exact ⟨e1, e2⟩
      refine wk_mix 15 (fun kS => match kS with | 4 => .any (fun I v w => PicI I w v (picN bits more p j)) | 9 => .any (fun I v w => PicI I w v (picN bits more p i)) | 10 => .val (.tuple #[.bool (belowD (picN bits more p j) (picN bits more p i)), .int .i64 0]) | _ => .none) (by kernel_rfl) (by kernel_rfl) (by intro kS G hk; (try dsimp only at hk); (split at hk) <;> first | (cases hk; done) | (injection hk with hk; subst hk; exact ⟨by intro j hkj I v w w' hR hG; first | exact hG | (exact hG.fr hR (fun _ _ h => h)) | (exact hG.fr hR (fun _ _ h => h)), fun ⟨_, _, _, _, hs⟩ => by (try dsimp only at hs); split at hs <;> cases hs⟩)) (by intro kS s y G hk; (try dsimp only at hk); split at hk <;> cases hk) ?_
      simp only [List.take_succ_cons, List.take_zero, List.take_nil, List.drop_succ_cons, List.drop_zero, List.drop_nil]
      refine mx_calm rfl (want rfl) (fun u111 eu111 fu111 => mv_slice (A2.at 11 rfl (A1.at 11 rfl rfl))) ?_
      refine mx_calm rfl (want rfl) (fun u112 eu112 fu112 => mv_int hs2_13) ?_
      refine mx_calm rfl (want rfl) (fun u113 eu113 fu113 => rn_index j Tryz.underlying92 sz_45 rfl rfl rfl (by omega)) ?_
      refine mx_calm rfl (want rfl) (fun u114 eu114 fu114 => rn_load2 ag_45 sz_45 rfl (((ext_drawn _).trans' eu114).cell (fun h => h) y5) (((ext_drawn _).trans' eu114).cell (fun h => h) y6)) ?_
      refine mx_any rfl rfl (want rfl) (fun u115 eu115 fu115 => do_call (ent_func cf_29 (argsC (t_agg rfl) args0)) (copypic_ct (picN bits more p j) y1 y2 y3 y4 _ (pic_Bp (picN_is hp j)) u115 (y7.fr (vl_stab _) ((ext_drawn _).trans' eu115) (fun _ _ h => h)) (y8.fr (vv_stab _) ((ext_drawn _).trans' eu115) (fun _ _ h => h))) (fun v w' E h => ⟨E, h⟩)) (fun I78 v78 => ?_)
      refine mx_calm rfl (want rfl) (fun u116 eu116 fu116 => mv_slice (A2.at 11 rfl (A1.at 11 rfl rfl))) ?_
      refine mx_calm rfl (want rfl) (fun u117 eu117 fu117 => mv_int (A2.at 12 rfl hs1_12)) ?_
      refine mx_calm rfl (want rfl) (fun u118 eu118 fu118 => rn_index i Tryz.underlying92 sz_45 rfl rfl rfl (by omega)) ?_
      refine mx_calm rfl (want rfl) (fun u119 eu119 fu119 => rn_load2 ag_45 sz_45 rfl (((ext_drawn _).trans' eu119).cell (fun h => h) x5) (((ext_drawn _).trans' eu119).cell (fun h => h) x6)) ?_
      refine mx_any rfl rfl (want rfl) (fun u120 eu120 fu120 => do_call (ent_func cf_29 (argsC (t_agg rfl) args0)) (copypic_ct (picN bits more p i) x1 x2 x3 x4 _ (pic_Bp (picN_is hp i)) u120 (x7.fr (vl_stab _) ((ext_drawn _).trans' eu120) (fun _ _ h => h)) (x8.fr (vv_stab _) ((ext_drawn _).trans' eu120) (fun _ _ h => h))) (fun v w' E h => ⟨E, h⟩)) (fun I83 v83 => ?_)
      refine mx_val rfl (want rfl) (fun u121 eu121 fu121 => by obtain ⟨e1, e2, e3, e4, rfl, e5, e6⟩ := fu121 78 _ rfl (show (78 : Nat) ∈ _ from by decide); obtain ⟨d1, d2, d3, d4, rfl, d5, d6⟩ := fu121 83 _ rfl (show (83 : Nat) ∈ _ from by decide); exact do_call (ent_func cf_57 (argsC (t_agg rfl) (argsC (t_agg rfl) args0))) (pBelow_ct (picN bits more p j) e1 e2 e3 e4 _ (pic_Bp (picN_is hp j)) (picN bits more p i) d1 d2 d3 d4 _ (pic_Bp (picN_is hp i)) u121 e5 e6 d5 d6) (fun _ _ E h => ⟨E, (by rw [belE_in (picN_is hp j) (picN_is hp i)] at h; exact h)⟩)) ?_
      refine mx_calm rfl (want rfl) (fun u122 eu122 fu122 => mv_tuple rfl) ?_
      refine mx_calm rfl (want rfl) (fun u123 eu123 fu123 => rn_extract rfl rfl) ?_
      refine mx_split (fun hd2 => ?_) (fun hd2 => ?_)
      ·
       refine mx_calm rfl (want rfl) (fun u124 eu124 fu124 => rn_extract rfl rfl) ?_
       refine mx_calm rfl (want rfl) (fun u125 eu125 fu125 => as_bool rfl) ?_
       refine mx_nil (fun w14 E15' H9 HS => ?_)
       have E15 := (ext_drawn _).trans' E15'
       have F23 := F22.ext E15
       have hz15 := E15.size
       have hI83 := (HS.1 83 _ rfl).2
       have hI78 := (HS.1 78 _ rfl).2
       have hX83_78 := HS.2 83 _ 78 _ rfl rfl (show (83 : Nat) ≠ 78 from by decide)
       simp only at hI83
       simp only at hI78
       simp only at hX83_78
       have g83 := H9 83 _ rfl
       have g78 := H9 78 _ rfl
       refine lx_value (want rfl) (as_int rfl) ?_
       refine lx_nil ?_
       refine wk_seq ?_
       have hQc := (hQ.fr (pc_stab _) (Fr.ext (Fr.ext (Fr.ext (Fr.ext (Fr.refl no w10) EL1) EL2) E14) E15) (fun _ _ h => h))
       obtain ⟨bxi, oxi, hsxi, _, x1, x2, x3, x4, x5, x6, x7, x8⟩ := hQc i _ (three_at (f := picN bits more p) hlt1)
       obtain ⟨rfl, rfl⟩ : b4 = bxi ∧ 0 = oxi := by injection hsxi with e; injection e with e1 e2; exact ⟨e1, e2⟩
       obtain ⟨bxj, oxj, hsxj, _, y1, y2, y3, y4, y5, y6, y7, y8⟩ := hQc j _ (three_at (f := picN bits more p) hlt2)
       obtain ⟨rfl, rfl⟩ : b4 = bxj ∧ 0 = oxj := by injection hsxj with e; injection e with e1 e2; exact ⟨e1, e2⟩
       refine wk_mix 29 (fun _ => .none) (by kernel_rfl) (by kernel_rfl) (fun kS G hk => by cases hk) (fun kS s y G hk => by cases hk) ?_
       simp only [List.take_succ_cons, List.take_zero, List.take_nil, List.drop_succ_cons, List.drop_zero, List.drop_nil]
       refine mx_calm rfl (want rfl) (fun u126 eu126 fu126 => mv_int rfl) ?_
       refine mx_calm rfl (want rfl) (fun u127 eu127 fu127 => rn_neq rfl rfl) ?_
       refine mx_dec_f ((fun h => h rfl)) ?_
       refine mx_calm rfl (want rfl) (fun u128 eu128 fu128 => mv_bool rfl) ?_
       refine mx_calm rfl (want_if (j := 2) (d := 89) (x := false) (y := false) rfl rfl (by decide) rfl) (fun u129 eu129 fu129 => mv_int rfl) ?_
       refine mx_calm rfl (want_if (j := 2) (d := 89) (x := false) (y := false) rfl rfl (by decide) rfl) (fun u130 eu130 fu130 => rn_neq rfl rfl) ?_
       refine mx_dec_f ((fun h => h rfl)) ?_
       refine mx_calm rfl (want rfl) (fun u131 eu131 fu131 => pick_f rfl rfl) ?_
       refine mx_calm rfl (want rfl) (fun u132 eu132 fu132 => mv_bool rfl) ?_
       refine mx_calm rfl (want_if (j := 6) (d := 93) (x := false) (y := false) rfl rfl (by decide) rfl) (fun u133 eu133 fu133 => mv_int (A2.at 12 rfl hs1_12)) ?_
       refine mx_calm rfl (want_if (j := 6) (d := 93) (x := false) (y := false) rfl rfl (by decide) rfl) (fun u134 eu134 fu134 => mv_int hs2_13) ?_
       refine mx_calm rfl (want_if (j := 6) (d := 93) (x := false) (y := false) rfl rfl (by decide) rfl) (fun u135 eu135 fu135 => rn_leq rfl rfl) ?_
       refine mx_dec (fun hij => ?_) (fun hij => ?_)
       ·
        refine mx_calm rfl (want_if (j := 6) (d := 93) (x := false) (y := false) rfl rfl (by decide) rfl) (fun u136 eu136 fu136 => mv_bool rfl) ?_
        refine mx_calm rfl (want_if (j := 10) (d := 97) (x := true) (y := true) rfl rfl (by decide) rfl) (fun u137 eu137 fu137 => mv_bool rfl) ?_
        refine mx_calm rfl (want_if (j := 10) (d := 97) (x := true) (y := true) rfl rfl (by decide) rfl) (fun u138 eu138 fu138 => rn_not rfl) ?_
        refine mx_calm rfl (want_if (j := 6) (d := 93) (x := false) (y := false) rfl rfl (by decide) rfl) (fun u139 eu139 fu139 => pick_t rfl rfl) ?_
        refine mx_calm rfl (want rfl) (fun u140 eu140 fu140 => pick_f rfl rfl) ?_
        refine mx_calm rfl (want rfl) (fun u141 eu141 fu141 => mv_bool rfl) ?_
        refine mx_skip (want_if (j := 15) (d := 102) (x := false) (y := true) rfl rfl (by decide) rfl) ?_
        refine mx_skip (want_if (j := 15) (d := 102) (x := false) (y := true) rfl rfl (by decide) rfl) ?_
        refine mx_skip (want_un (j := 17) (d := 104) (x := true) rfl rfl (by decide) rfl) ?_
        refine mx_skip (want_if (j := 15) (d := 102) (x := false) (y := true) rfl rfl (by decide) rfl) ?_
        refine mx_skip (want_if (j := 15) (d := 102) (x := false) (y := true) rfl rfl (by decide) rfl) ?_
        refine mx_skip (want_un (j := 20) (d := 107) (x := true) rfl rfl (by decide) rfl) ?_
        refine mx_skip (want_un (j := 20) (d := 107) (x := true) rfl rfl (by decide) rfl) ?_
        refine mx_skip (want_un (j := 20) (d := 107) (x := true) rfl rfl (by decide) rfl) ?_
        refine mx_skip (want_un (j := 20) (d := 107) (x := true) rfl rfl (by decide) rfl) ?_
        refine mx_skip (want_un (j := 20) (d := 107) (x := true) rfl rfl (by decide) rfl) ?_
        refine mx_skip (want_un (j := 20) (d := 107) (x := true) rfl rfl (by decide) rfl) ?_
        refine mx_skip (want_un (j := 20) (d := 107) (x := true) rfl rfl (by decide) rfl) ?_
        refine mx_skip (want_un (j := 20) (d := 107) (x := true) rfl rfl (by decide) rfl) ?_
        refine mx_nil (fun w15 E16' H10 HS => ?_)
        have E16 := (ext_drawn _).trans' E16'
        have F24 := F23.ext E16
        have hz16 := E16.size
        refine lx_skip (want_un (j := 20) (d := 107) (x := true) rfl rfl (by decide) rfl) ?_
        refine lx_skip (want_un (j := 20) (d := 107) (x := true) rfl rfl (by decide) rfl) ?_
        refine lx_skip (want_if (j := 15) (d := 102) (x := false) (y := true) rfl rfl (by decide) rfl) ?_
        refine lx_value (want rfl) (pick_t rfl rfl) ?_
        refine lx_nil ?_
        refine wk_cond_t rfl ?_
        refine wk_seq ?_
        refine wk_region ?_
        refine lx_value (want rfl) (as_bool rfl) ?_
        refine lx_nil ?_
        refine wk_ret ?_
        refine retR1 Tryz.results13 (.tmp (t_bool rfl)) F24 ?_
        first | exact rfl | exact absurd (picN_le hp (show i ≤ j by omega)) (by rw [hd1]; exact Bool.false_ne_true)
       ·
        refine mx_calm rfl (want_if (j := 6) (d := 93) (x := false) (y := false) rfl rfl (by decide) rfl) (fun u142 eu142 fu142 => mv_bool rfl) ?_
        refine mx_skip (want_if (j := 10) (d := 97) (x := true) (y := false) rfl rfl (by decide) rfl) ?_
        refine mx_skip (want_if (j := 10) (d := 97) (x := true) (y := false) rfl rfl (by decide) rfl) ?_
        refine mx_calm rfl (want_if (j := 6) (d := 93) (x := false) (y := false) rfl rfl (by decide) rfl) (fun u143 eu143 fu143 => pick_f rfl rfl) ?_
        refine mx_calm rfl (want rfl) (fun u144 eu144 fu144 => pick_f rfl rfl) ?_
        refine mx_calm rfl (want rfl) (fun u145 eu145 fu145 => mv_bool rfl) ?_
        refine mx_calm rfl (want_if (j := 15) (d := 102) (x := false) (y := false) rfl rfl (by decide) rfl) (fun u146 eu146 fu146 => mv_bool rfl) ?_
        refine mx_calm rfl (want_if (j := 15) (d := 102) (x := false) (y := false) rfl rfl (by decide) rfl) (fun u147 eu147 fu147 => mv_bool rfl) ?_
        refine mx_skip (want_if (j := 17) (d := 104) (x := true) (y := false) rfl rfl (by decide) rfl) ?_
        refine mx_calm rfl (want_if (j := 15) (d := 102) (x := false) (y := false) rfl rfl (by decide) rfl) (fun u148 eu148 fu148 => pick_f rfl rfl) ?_
        refine mx_calm rfl (want_if (j := 15) (d := 102) (x := false) (y := false) rfl rfl (by decide) rfl) (fun u149 eu149 fu149 => mv_bool rfl) ?_
        refine mx_skip (want_if (j := 20) (d := 107) (x := true) (y := false) rfl rfl (by decide) rfl) ?_
        refine mx_skip (want_if (j := 20) (d := 107) (x := true) (y := false) rfl rfl (by decide) rfl) ?_
        refine mx_skip (want_if (j := 20) (d := 107) (x := true) (y := false) rfl rfl (by decide) rfl) ?_
        refine mx_skip (want_if (j := 20) (d := 107) (x := true) (y := false) rfl rfl (by decide) rfl) ?_
        refine mx_skip (want_if (j := 20) (d := 107) (x := true) (y := false) rfl rfl (by decide) rfl) ?_
        refine mx_skip (want_if (j := 20) (d := 107) (x := true) (y := false) rfl rfl (by decide) rfl) ?_
        refine mx_skip (want_if (j := 20) (d := 107) (x := true) (y := false) rfl rfl (by decide) rfl) ?_
        refine mx_skip (want_if (j := 20) (d := 107) (x := true) (y := false) rfl rfl (by decide) rfl) ?_
        refine mx_nil (fun w15 E17' H11 HS => ?_)
        have E17 := (ext_drawn _).trans' E17'
        have F25 := F23.ext E17
        have hz17 := E17.size
        refine lx_skip (want_if (j := 20) (d := 107) (x := true) (y := false) rfl rfl (by decide) rfl) ?_
        refine lx_skip (want_if (j := 20) (d := 107) (x := true) (y := false) rfl rfl (by decide) rfl) ?_
        refine lx_value (want_if (j := 15) (d := 102) (x := false) (y := false) rfl rfl (by decide) rfl) (pick_f rfl rfl) ?_
        refine lx_value (want rfl) (pick_f rfl rfl) ?_
        refine lx_nil ?_
        refine wk_cond_f rfl ?_
        refine wk_skip ?_
        refine wk_region ?_
        refine lx_value (want rfl) (mv_int hs2_13) ?_
        refine lx_value (want rfl) (rn_add rfl rfl (by omega)) ?_
        refine lx_value (want rfl) (as_int rfl) ?_
        refine lx_nil ?_
        exact ⟨rfl, ((((((((((((((((((((((((((((((((((((((((((((((((((((((((((((((((((((((A2.up rfl _).up rfl _).up rfl _).up rfl _).up rfl _).up rfl _).up rfl _).up rfl _).up rfl _).up rfl _).up rfl _).up rfl _).up rfl _).up rfl _).up rfl _).up rfl _).up rfl _).up rfl _).up rfl _).up rfl _).up rfl _).up rfl _).up rfl _).up rfl _).up rfl _).up rfl _).up rfl _).up rfl _).up rfl _).up rfl _).up rfl _).up rfl _).up rfl _).up rfl _).up rfl _).up rfl _).up rfl _).up rfl _).up rfl _).up rfl _).up rfl _).up rfl _).up rfl _).up rfl _).up rfl _).up rfl _).up rfl _).up rfl _).up rfl _).up rfl _).up rfl _).up rfl _).up rfl _).up rfl _).up rfl _).up rfl _).up rfl _).up rfl _).up rfl _).up rfl _).up rfl _).up rfl _).up rfl _).up rfl _).up rfl _).up rfl _).up rfl _).up rfl _).up rfl _).up rfl _), (Fr.ext (Fr.ext (Fr.ext EL2 E14) E15) E17), _, (by omega), j + 1, rfl, rfl, by omega⟩
      ·
       refine mx_calm rfl (want rfl) (fun u150 eu150 fu150 => rn_extract rfl rfl) ?_
       refine mx_calm rfl (want rfl) (fun u151 eu151 fu151 => as_bool rfl) ?_
       refine mx_nil (fun w14 E18' H12 HS => ?_)
       have E18 := (ext_drawn _).trans' E18'
       have F26 := F22.ext E18
       have hz18 := E18.size
       have hI83 := (HS.1 83 _ rfl).2
       have hI78 := (HS.1 78 _ rfl).2
       have hX83_78 := HS.2 83 _ 78 _ rfl rfl (show (83 : Nat) ≠ 78 from by decide)
       simp only at hI83
       simp only at hI78
       simp only at hX83_78
       have g83 := H12 83 _ rfl
       have g78 := H12 78 _ rfl
       refine lx_value (want rfl) (as_int rfl) ?_
       refine lx_nil ?_
       refine wk_seq ?_
       have hQc := (hQ.fr (pc_stab _) (Fr.ext (Fr.ext (Fr.ext (Fr.ext (Fr.refl no w10) EL1) EL2) E14) E18) (fun _ _ h => h))
       obtain ⟨bxi, oxi, hsxi, _, x1, x2, x3, x4, x5, x6, x7, x8⟩ := hQc i _ (three_at (f := picN bits more p) hlt1)
       obtain ⟨rfl, rfl⟩ : b4 = bxi ∧ 0 = oxi := by injection hsxi with e; injection e with e1 e2; exact ⟨e1, e2⟩
       obtain ⟨bxj, oxj, hsxj, _, y1, y2, y3, y4, y5, y6, y7, y8⟩ := hQc j _ (three_at (f := picN bits more p) hlt2)
       obtain ⟨rfl, rfl⟩ : b4 = bxj ∧ 0 = oxj := by injection hsxj with e; injection e with e1 e2; exact ⟨e1, e2⟩
       refine wk_mix 29 (fun _ => .none) (by kernel_rfl) (by kernel_rfl) (fun kS G hk => by cases hk) (fun kS s y G hk => by cases hk) ?_
       simp only [List.take_succ_cons, List.take_zero, List.take_nil, List.drop_succ_cons, List.drop_zero, List.drop_nil]
       refine mx_calm rfl (want rfl) (fun u152 eu152 fu152 => mv_int rfl) ?_
       refine mx_calm rfl (want rfl) (fun u153 eu153 fu153 => rn_neq rfl rfl) ?_
       refine mx_dec_f ((fun h => h rfl)) ?_
       refine mx_calm rfl (want rfl) (fun u154 eu154 fu154 => mv_bool rfl) ?_
       refine mx_calm rfl (want_if (j := 2) (d := 89) (x := false) (y := false) rfl rfl (by decide) rfl) (fun u155 eu155 fu155 => mv_int rfl) ?_
       refine mx_calm rfl (want_if (j := 2) (d := 89) (x := false) (y := false) rfl rfl (by decide) rfl) (fun u156 eu156 fu156 => rn_neq rfl rfl) ?_
       refine mx_dec_f ((fun h => h rfl)) ?_
       refine mx_calm rfl (want rfl) (fun u157 eu157 fu157 => pick_f rfl rfl) ?_
       refine mx_calm rfl (want rfl) (fun u158 eu158 fu158 => mv_bool rfl) ?_
       refine mx_calm rfl (want_if (j := 6) (d := 93) (x := false) (y := false) rfl rfl (by decide) rfl) (fun u159 eu159 fu159 => mv_int (A2.at 12 rfl hs1_12)) ?_
       refine mx_calm rfl (want_if (j := 6) (d := 93) (x := false) (y := false) rfl rfl (by decide) rfl) (fun u160 eu160 fu160 => mv_int hs2_13) ?_
       refine mx_calm rfl (want_if (j := 6) (d := 93) (x := false) (y := false) rfl rfl (by decide) rfl) (fun u161 eu161 fu161 => rn_leq rfl rfl) ?_
       refine mx_dec (fun hij => ?_) (fun hij => ?_)
       ·
        refine mx_calm rfl (want_if (j := 6) (d := 93) (x := false) (y := false) rfl rfl (by decide) rfl) (fun u162 eu162 fu162 => mv_bool rfl) ?_
        refine mx_calm rfl (want_if (j := 10) (d := 97) (x := true) (y := true) rfl rfl (by decide) rfl) (fun u163 eu163 fu163 => mv_bool rfl) ?_
        refine mx_calm rfl (want_if (j := 10) (d := 97) (x := true) (y := true) rfl rfl (by decide) rfl) (fun u164 eu164 fu164 => rn_not rfl) ?_
        refine mx_calm rfl (want_if (j := 6) (d := 93) (x := false) (y := false) rfl rfl (by decide) rfl) (fun u165 eu165 fu165 => pick_t rfl rfl) ?_
        refine mx_calm rfl (want rfl) (fun u166 eu166 fu166 => pick_f rfl rfl) ?_
        refine mx_calm rfl (want rfl) (fun u167 eu167 fu167 => mv_bool rfl) ?_
        refine mx_skip (want_if (j := 15) (d := 102) (x := false) (y := true) rfl rfl (by decide) rfl) ?_
        refine mx_skip (want_if (j := 15) (d := 102) (x := false) (y := true) rfl rfl (by decide) rfl) ?_
        refine mx_skip (want_un (j := 17) (d := 104) (x := true) rfl rfl (by decide) rfl) ?_
        refine mx_skip (want_if (j := 15) (d := 102) (x := false) (y := true) rfl rfl (by decide) rfl) ?_
        refine mx_skip (want_if (j := 15) (d := 102) (x := false) (y := true) rfl rfl (by decide) rfl) ?_
        refine mx_skip (want_un (j := 20) (d := 107) (x := true) rfl rfl (by decide) rfl) ?_
        refine mx_skip (want_un (j := 20) (d := 107) (x := true) rfl rfl (by decide) rfl) ?_
        refine mx_skip (want_un (j := 20) (d := 107) (x := true) rfl rfl (by decide) rfl) ?_
        refine mx_skip (want_un (j := 20) (d := 107) (x := true) rfl rfl (by decide) rfl) ?_
        refine mx_skip (want_un (j := 20) (d := 107) (x := true) rfl rfl (by decide) rfl) ?_
        refine mx_skip (want_un (j := 20) (d := 107) (x := true) rfl rfl (by decide) rfl) ?_
        refine mx_skip (want_un (j := 20) (d := 107) (x := true) rfl rfl (by decide) rfl) ?_
        refine mx_skip (want_un (j := 20) (d := 107) (x := true) rfl rfl (by decide) rfl) ?_
        refine mx_nil (fun w15 E19' H13 HS => ?_)
        have E19 := (ext_drawn _).trans' E19'
        have F27 := F26.ext E19
        have hz19 := E19.size
        refine lx_skip (want_un (j := 20) (d := 107) (x := true) rfl rfl (by decide) rfl) ?_
        refine lx_skip (want_un (j := 20) (d := 107) (x := true) rfl rfl (by decide) rfl) ?_
        refine lx_skip (want_if (j := 15) (d := 102) (x := false) (y := true) rfl rfl (by decide) rfl) ?_
        refine lx_value (want rfl) (pick_t rfl rfl) ?_
        refine lx_nil ?_
        refine wk_cond_t rfl ?_
        refine wk_seq ?_
        refine wk_region ?_
        refine lx_value (want rfl) (as_bool rfl) ?_
        refine lx_nil ?_
        refine wk_ret ?_
        refine retR1 Tryz.results13 (.tmp (t_bool rfl)) F27 ?_
        first | exact rfl | exact absurd (picN_le hp (show i ≤ j by omega)) (by rw [hd1]; exact Bool.false_ne_true)
       ·
        refine mx_calm rfl (want_if (j := 6) (d := 93) (x := false) (y := false) rfl rfl (by decide) rfl) (fun u168 eu168 fu168 => mv_bool rfl) ?_
        refine mx_skip (want_if (j := 10) (d := 97) (x := true) (y := false) rfl rfl (by decide) rfl) ?_
        refine mx_skip (want_if (j := 10) (d := 97) (x := true) (y := false) rfl rfl (by decide) rfl) ?_
        refine mx_calm rfl (want_if (j := 6) (d := 93) (x := false) (y := false) rfl rfl (by decide) rfl) (fun u169 eu169 fu169 => pick_f rfl rfl) ?_
        refine mx_calm rfl (want rfl) (fun u170 eu170 fu170 => pick_f rfl rfl) ?_
        refine mx_calm rfl (want rfl) (fun u171 eu171 fu171 => mv_bool rfl) ?_
        refine mx_calm rfl (want_if (j := 15) (d := 102) (x := false) (y := false) rfl rfl (by decide) rfl) (fun u172 eu172 fu172 => mv_bool rfl) ?_
        refine mx_calm rfl (want_if (j := 15) (d := 102) (x := false) (y := false) rfl rfl (by decide) rfl) (fun u173 eu173 fu173 => mv_bool rfl) ?_
        refine mx_skip (want_if (j := 17) (d := 104) (x := true) (y := false) rfl rfl (by decide) rfl) ?_
        refine mx_calm rfl (want_if (j := 15) (d := 102) (x := false) (y := false) rfl rfl (by decide) rfl) (fun u174 eu174 fu174 => pick_f rfl rfl) ?_
        refine mx_calm rfl (want_if (j := 15) (d := 102) (x := false) (y := false) rfl rfl (by decide) rfl) (fun u175 eu175 fu175 => mv_bool rfl) ?_
        refine mx_skip (want_if (j := 20) (d := 107) (x := true) (y := false) rfl rfl (by decide) rfl) ?_
        refine mx_skip (want_if (j := 20) (d := 107) (x := true) (y := false) rfl rfl (by decide) rfl) ?_
        refine mx_skip (want_if (j := 20) (d := 107) (x := true) (y := false) rfl rfl (by decide) rfl) ?_
        refine mx_skip (want_if (j := 20) (d := 107) (x := true) (y := false) rfl rfl (by decide) rfl) ?_
        refine mx_skip (want_if (j := 20) (d := 107) (x := true) (y := false) rfl rfl (by decide) rfl) ?_
        refine mx_skip (want_if (j := 20) (d := 107) (x := true) (y := false) rfl rfl (by decide) rfl) ?_
        refine mx_skip (want_if (j := 20) (d := 107) (x := true) (y := false) rfl rfl (by decide) rfl) ?_
        refine mx_skip (want_if (j := 20) (d := 107) (x := true) (y := false) rfl rfl (by decide) rfl) ?_
        refine mx_nil (fun w15 E20' H14 HS => ?_)
        have E20 := (ext_drawn _).trans' E20'
        have F28 := F26.ext E20
        have hz20 := E20.size
        refine lx_skip (want_if (j := 20) (d := 107) (x := true) (y := false) rfl rfl (by decide) rfl) ?_
        refine lx_skip (want_if (j := 20) (d := 107) (x := true) (y := false) rfl rfl (by decide) rfl) ?_
        refine lx_value (want_if (j := 15) (d := 102) (x := false) (y := false) rfl rfl (by decide) rfl) (pick_f rfl rfl) ?_
        refine lx_value (want rfl) (pick_f rfl rfl) ?_
        refine lx_nil ?_
        refine wk_cond_f rfl ?_
        refine wk_skip ?_
        refine wk_region ?_
        refine lx_value (want rfl) (mv_int hs2_13) ?_
        refine lx_value (want rfl) (rn_add rfl rfl (by omega)) ?_
        refine lx_value (want rfl) (as_int rfl) ?_
        refine lx_nil ?_
        exact ⟨rfl, ((((((((((((((((((((((((((((((((((((((((((((((((((((((((((((((((((((((A2.up rfl _).up rfl _).up rfl _).up rfl _).up rfl _).up rfl _).up rfl _).up rfl _).up rfl _).up rfl _).up rfl _).up rfl _).up rfl _).up rfl _).up rfl _).up rfl _).up rfl _).up rfl _).up rfl _).up rfl _).up rfl _).up rfl _).up rfl _).up rfl _).up rfl _).up rfl _).up rfl _).up rfl _).up rfl _).up rfl _).up rfl _).up rfl _).up rfl _).up rfl _).up rfl _).up rfl _).up rfl _).up rfl _).up rfl _).up rfl _).up rfl _).up rfl _).up rfl _).up rfl _).up rfl _).up rfl _).up rfl _).up rfl _).up rfl _).up rfl _).up rfl _).up rfl _).up rfl _).up rfl _).up rfl _).up rfl _).up rfl _).up rfl _).up rfl _).up rfl _).up rfl _).up rfl _).up rfl _).up rfl _).up rfl _).up rfl _).up rfl _).up rfl _).up rfl _).up rfl _), (Fr.ext (Fr.ext (Fr.ext EL2 E14) E18) E20), _, (by omega), j + 1, rfl, rfl, by omega⟩
    ·
     refine lx_nil ?_
     refine wk_cond_f rfl ?_
     refine wk_exit ?_
     refine wk_region ?_
     refine lx_value (want rfl) (mv_int (A2.at 12 rfl hs1_12)) ?_
     refine lx_value (want rfl) (rn_add rfl rfl (by omega)) ?_
     have hQ : PicS (fun _ => True) w12 (some ⟨b4, 0, none⟩) [picN bits more p 0, picN bits more p 1, picN bits more p 2] := by rw [picN_2 hp]; exact pc_three ((B4.ext EL1).ext EL2) ⟨((hVb.fr (vl_stab _) (Fr.ext (Fr.ext (Fr.ext (Fr.trans (Fr.ext (Fr.refl (fun k => k = b3) w7) Eb3) Es2 (fun k _ h => h)) Eb4) EL1) EL2) (fun k hk h => by have hk1 := hk.1; have hk2 := hk.2; (try dsimp only at h hk1 hk2); first | exact h.elim | omega | (rcases (show _ ∨ _ from h) with h | h <;> omega))).wide (fun _ _ => trivial)), (vv_wide (hCb.fr (vv_stab _) (Fr.ext (Fr.ext (Fr.ext (Fr.trans (Fr.ext (Fr.refl (fun k => k = b3) w7) Eb3) Es2 (fun k _ h => h)) Eb4) EL1) EL2) (fun k hk h => by have hk1 := hk.1; have hk2 := hk.2; (try dsimp only at h hk1 hk2); first | exact h.elim | omega | (rcases (show _ ∨ _ from h) with h | h <;> omega))) (fun _ _ => trivial))⟩ ⟨((hVa.fr (vl_stab _) (Fr.ext (Fr.ext (Fr.ext (Fr.trans (Fr.ext (Fr.ext (Fr.trans (Fr.ext (Fr.refl (fun k => k = b2 ∨ k = b3) w4) Eb2) Es1 (fun k _ h => (.inl h))) E4) Eb3) Es2 (fun k _ h => (.inr h))) Eb4) EL1) EL2) (fun k hk h => by have hk1 := hk.1; have hk2 := hk.2; (try dsimp only at h hk1 hk2); first | exact h.elim | omega | (rcases (show _ ∨ _ from h) with h | h <;> omega))).wide (fun _ _ => trivial)), (vv_wide (hCa.fr (vv_stab _) (Fr.ext (Fr.ext (Fr.ext (Fr.trans (Fr.ext (Fr.ext (Fr.trans (Fr.ext (Fr.refl (fun k => k = b2 ∨ k = b3) w4) Eb2) Es1 (fun k _ h => (.inl h))) E4) Eb3) Es2 (fun k _ h => (.inr h))) Eb4) EL1) EL2) (fun k hk h => by have hk1 := hk.1; have hk2 := hk.2; (try dsimp only at h hk1 hk2); first | exact h.elim | omega | (rcases (show _ ∨ _ from h) with h | h <;> omega))) (fun _ _ => trivial))⟩ ⟨(hv.fr (vl_stab _) F12 (fun _ _ h => h)).wide (fun _ _ => trivial), vv_wide (hk.fr (vv_stab _) F12 (fun _ _ h => h)) (fun _ _ => trivial)⟩
     refine lx_value (want rfl) (as_int rfl) ?_
     refine lx_nil ?_
     exact ⟨rfl, (((((((((A1.up rfl _).up rfl _).up rfl _).loop A2 rfl).up rfl _).up rfl _).up rfl _).up rfl _).up rfl _), (Fr.ext EL1 EL2), _, (by omega), i + 1, rfl, rfl, by omega⟩
   ·
    refine lx_nil ?_
    refine wk_cond_f rfl ?_
    refine wk_exit ?_
    refine wk_seq ?_
    refine wk_region ?_
    refine lx_call (want rfl) (ent_func cf_19 args0) (awake_ct w11) ?_
    rintro _ w12 E21 rfl
    have F29 := F11.ext E21
    have hz21 := E21.size
    refine lx_value (want rfl) (as_bool rfl) ?_
    refine lx_nil ?_
    refine wk_ret ?_
    refine retR1 Tryz.results13 (.tmp (t_bool rfl)) F29 ?_
    first | exact rfl | exact absurd (picN_le hp (show i ≤ j by omega)) (by rw [hd1]; exact Bool.false_ne_true)
  ·
   refine lx_value (want_if (j := 3) (d := 21) (x := false) (y := false) rfl rfl (by decide) rfl) (rn_not rfl) ?_
   refine lx_value (want rfl) (pick_f rfl rfl) ?_
   refine lx_nil ?_
   refine wk_cond_t rfl ?_
   refine wk_seq ?_
   refine wk_region ?_
   refine lx_call (want rfl) (ent_func cf_19 args0) (awake_ct w3) ?_
   rintro _ w4 E22 rfl
   have F30 := F3.ext E22
   have hz22 := E22.size
   refine lx_value (want rfl) (as_bool rfl) ?_
   refine lx_nil ?_
   refine wk_ret ?_
   refine retR1 Tryz.results13 (.tmp (t_bool rfl)) F30 ?_
   first | exact rfl | exact absurd (picN_le hp (show i ≤ j by omega)) (by rw [hd1]; exact Bool.false_ne_true)
 ·
  refine lx_value (want rfl) (rn_not rfl) ?_
  refine lx_value (want rfl) (mv_bool rfl) ?_
  refine lx_skip (want_if (j := 3) (d := 21) (x := false) (y := true) rfl rfl (by decide) rfl) ?_
  refine lx_skip (want_if (j := 3) (d := 21) (x := false) (y := true) rfl rfl (by decide) rfl) ?_
  refine lx_skip (want_if (j := 3) (d := 21) (x := false) (y := true) rfl rfl (by decide) rfl) ?_
  refine lx_value (want rfl) (pick_t rfl rfl) ?_
  refine lx_nil ?_
  refine wk_cond_t rfl ?_
  refine wk_seq ?_
  refine wk_region ?_
  refine lx_call (want rfl) (ent_func cf_19 args0) (awake_ct w2) ?_
  rintro _ w3 E23 rfl
  have F31 := F2.ext E23
  have hz23 := E23.size
  refine lx_value (want rfl) (as_bool rfl) ?_
  refine lx_nil ?_
  refine wk_ret ?_
  refine retR1 Tryz.results13 (.tmp (t_bool rfl)) F31 ?_
  first | exact rfl | exact absurd (picN_le hp (show i ≤ j by omega)) (by rw [hd1]; exact Bool.false_ne_true)

end Go.Proofs.YtnhgfmbmfjmonaaGreatDoor

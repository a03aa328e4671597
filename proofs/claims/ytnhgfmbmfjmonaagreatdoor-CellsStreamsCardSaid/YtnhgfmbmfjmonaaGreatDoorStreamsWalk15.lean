/- What functions compute: rStream, pPlay, pDraw, rShow. -/
import Derived.Test.YtnhgfmbmfjmonaaGreatDoorStreamsFacts
import Derived.Test.YtnhgfmbmfjmonaaGreatDoorStreamsPre
import Derived.Test.YtnhgfmbmfjmonaaGreatDoorStreamsWalk10
import Derived.Test.YtnhgfmbmfjmonaaGreatDoorStreamsWalk11
import Derived.Test.YtnhgfmbmfjmonaaGreatDoorStreamsWalk13
import Derived.Test.YtnhgfmbmfjmonaaGreatDoorStreamsWalk14
import Derived.Test.YtnhgfmbmfjmonaaGreatDoorStreamsWalk3
import Derived.Test.YtnhgfmbmfjmonaaGreatDoorStreamsWalk4
import Derived.Test.YtnhgfmbmfjmonaaGreatDoorStreamsWalk7
set_option maxRecDepth 100000
set_option linter.unusedVariables false
set_option linter.unusedSimpArgs false
namespace Go.Proofs.YtnhgfmbmfjmonaaGreatDoor
open Go Go.RowKit Go.Mix Go.Eng
set_option maxHeartbeats 2000000 in
set_option maxRecDepth 100000 in
theorem rStream_ct (p : Pic) (sv : Option Addr) (cv : Nat) (sk : Option Addr) (ck : Nat) (G : Nat → Prop) (hB : Bp p) (z : Int) (w0 : World) (hv : VlS G w0 sv p.1) (hk : VvS G w0 sk p.2) :
  CT Tryz.prog 50 [.agg #[.slice sv p.1.length cv, .slice sk p.2.length ck], .int .i64 z] w0 no (fun v w => OutZ w0.heap.size w v (strR p z)) := by
 have hB1 := hB.1
 have hB2 := hB.2.1
 have hv2 := vl_lt hv
 have hk2 := vv_lt hk
 have F0 := Fr.refl no w0
 refine ct_body Tryz.func50 rfl Tryz.ntmps50 (Nat.le_of_ble_eq_true rfl) ?_
 refine wk_seq ?_
 refine wk_region ?_
 refine lx_new (want rfl) (rn_box (t_agg rfl)) ?_
 intro b1 w1 hb1 Eb1 B1 hlb1
 have F1 := F0.ext Eb1
 have hzb1 := Eb1.size
 refine lx_value (want rfl) (as_slice rfl) ?_
 refine lx_new (want rfl) (rn_alloc ze_36) ?_
 intro b2 w2 hb2 Eb2 B2 hlb2
 have F2 := F1.ext Eb2
 have hzb2 := Eb2.size
 refine lx_value (want rfl) (as_int rfl) ?_
 refine lx_nil ?_
 refine wk_seq ?_
 refine wk_seq ?_
 refine wk_region ?_
 refine lx_value (want rfl) (rn_loadBlk ag_45 sz_45 rfl (B1.ext Eb2) rfl rfl) ?_
 refine lx_call (want rfl) (ent_func cf_34 (argsC (t_agg rfl) args0)) (refispic_ct p _ _ _ _ _ hB w2 (hv.fr (vl_stab _) F2 (fun _ _ h => h)) (hk.fr (vv_stab _) F2 (fun _ _ h => h))) ?_
 rintro _ w3 E1 rfl
 have F3 := F2.ext E1
 have hz1 := E1.size
 refine lx_split (fun hp => ?_) (fun hp => ?_)
 ·
  have hpv := pic_vals hp
  refine lx_value (want rfl) (rn_not rfl) ?_
  refine lx_nil ?_
  refine wk_cond_f rfl ?_
  refine wk_skip ?_
  refine wk_seq ?_
  refine wk_seq ?_
  refine wk_region ?_
  refine lx_value (want rfl) (mv_int rfl) ?_
  refine lx_value (want rfl) (rn_fieldAddr fa_45_0 rfl) ?_
  refine lx_value (want rfl) (rn_load1Blk ag_30 rfl ((B1.ext Eb2).ext E1) rfl) ?_
  refine lx_value (want rfl) (rn_len Tryz.underlying30 rfl) ?_
  refine lx_value (want rfl) (rn_sub rfl rfl (by omega)) ?_
  refine lx_call (want rfl) (ent_func cf_65 (argsC (t_int rfl) (argsC (t_int rfl) (argsC (t_int rfl) args0)))) (in_ct _ _ _ w3) ?_
  rintro _ w4 E2 rfl
  have F4 := F3.ext E2
  have hz2 := E2.size
  refine lx_split (fun hin => ?_) (fun hin => ?_)
  ·
   replace hin := of_decide_eq_true hin
   obtain ⟨n, rfl⟩ : ∃ n : Nat, z = n := ⟨z.toNat, by omega⟩
   obtain ⟨v0, hv0⟩ : ∃ u, p.1[n]? = some u := ⟨_, List.getElem?_eq_getElem (by omega)⟩
   obtain ⟨b0, o0, rfl, _, hc0⟩ := hv2 n v0 hv0
   refine lx_value (want rfl) (rn_not rfl) ?_
   refine lx_nil ?_
   refine wk_cond_f rfl ?_
   refine wk_skip ?_
   refine wk_seq ?_
   refine wk_region ?_
   refine lx_value (want rfl) (rn_fieldAddr fa_45_0 rfl) ?_
   refine lx_value (want rfl) (rn_load1Blk ag_30 rfl (((B1.ext Eb2).ext E1).ext E2) rfl) ?_
   refine lx_value (want rfl) (mv_int rfl) ?_
   refine lx_value (want rfl) (rn_index n Tryz.underlying30 sz_36 rfl rfl rfl (by omega)) ?_
   refine lx_value (want rfl) (rn_load2 ag_36 sz_36 rfl (F4.cell (fun h => h) (hc0 0 _ rfl)) (F4.cell (fun h => h) (hc0 1 _ rfl))) ?_
   refine lx_new (want rfl) (rn_alloc ze_36) ?_
   intro b3 w5 hb3 Eb3 B3 hlb3
   have F5 := F4.ext Eb3
   have hzb3 := Eb3.size
   refine lx_set (want rfl) sz_36 rfl (t_agg rfl) rfl rfl rfl B3 (Nat.le_of_ble_eq_true rfl) ?_
   intro w6 Es1 Bs1
   have F6 := F5.set Es1 (by omega)
   have hzs1 := Es1.size
   refine lx_nil ?_
   refine wk_seq ?_
   refine wk_region ?_
   refine lx_value (want rfl) (as_slice rfl) ?_
   refine lx_nil ?_
   refine wk_seq ?_
   refine wk_block ?_
   refine wk_loopA [8, 9, 27, 28, 29, 30, 31, 32, 33, 34, 35, 36, 37, 38, 39, 40, 41, 42, 43, 44, 45, 46, 47, 48, 49, 50, 51, 52, 53, 54, 55, 56, 57, 58, 59, 60] (fun j => no j ∨ w0.heap.size ≤ j) (fun nM ρ w => ∃ (L : List Int) (vq : Vl) (so1_4 : Option Addr) (co1_4 : Nat), nM = 400 - L.length ∧ Blk w b1 (cellsOf B1) 45 ∧ Blk w b2 (cellsOf B2) 36 ∧ Blk w b3 [.int .u8 vq.1, .int .i64 vq.2] 36 ∧ ρ 8 = .slice so1_4 (L.length) co1_4 ∧ OwnS w 3 1 so1_4 (L.length) co1_4 (L.flatMap intC) ∧ (∀ k, ob so1_4 k → w0.heap.size ≤ k) ∧ (∀ k, ob so1_4 k → k ≠ b1) ∧ (∀ k, ob so1_4 k → k ≠ b2) ∧ (∀ k, ob so1_4 k → k ≠ b3) ∧ (L.length ≤ 400) ∧ (StQ p.2 v0 L vq) ∧ (isVal vq p.2.length = true)) _ ⟨[], v0, none, 0, rfl, (((((B1.ext Eb2).ext E1).ext E2).ext Eb3).ne Es1 (by omega)), ((((B2.ext E1).ext E2).ext Eb3).ne Es1 (by omega)), Bs1, rfl, (OwnS.nil w6 3 1), (fun _ h => ob_none h), (fun _ h => ob_none h), (fun _ h => ob_none h), (fun _ h => ob_none h), Nat.zero_le _, stq_0 _ _, hpv.1 v0 (List.mem_of_getElem? hv0)⟩ ?_
   rintro n1 ρ1 w7 A1 EL1 ⟨L, vq, so1_4, co1_4, rfl, BL1_1, BL1_2, BL1_3, ho1_4, ow1L_4, ge1L_4, ne1L_4_1, ne1L_4_2, ne1L_4_3, hLl, hq, hvq⟩
   have F7 := F6.wide EL1
   have hzL1 := EL1.size
   refine wk_seq ?_
   refine wk_seq ?_
   refine wk_region ?_
   refine lx_value (want rfl) (mv_slice ho1_4) ?_
   refine lx_value (want rfl) (rn_len Tryz.underlying77 rfl) ?_
   refine lx_value (want rfl) (rn_lss rfl rfl) ?_
   refine lx_dec (fun hl => ?_) (fun hl => ?_)
   ·
    refine lx_value (want rfl) (mv_bool rfl) ?_
    refine lx_value (want_if (j := 3) (d := 30) (x := true) (y := true) rfl rfl (by decide) rfl) (rn_fieldAddr fa_36_0 (A1.at 7 rfl rfl)) ?_
    refine lx_value (want_if (j := 3) (d := 30) (x := true) (y := true) rfl rfl (by decide) rfl) (rn_load1Blk ag_5 rfl BL1_3 rfl) ?_
    refine lx_value (want_if (j := 3) (d := 30) (x := true) (y := true) rfl rfl (by decide) rfl) (rn_eql rfl rfl) ?_
    refine lx_dec (fun h4 => ?_) (fun h4 => ?_)
    ·
     have hvr := isVal_ref hvq h4
     obtain ⟨y, hy⟩ : ∃ y, p.2[num vq]? = some y := ⟨_, List.getElem?_eq_getElem hvr.2⟩
     have hyv := hpv.2 y (List.mem_of_getElem? hy)
     obtain ⟨by_, oy, rfl, _, sy, cy, hcy, hpy⟩ := hk2 _ y hy
     refine lx_value (want rfl) (pick_t rfl rfl) ?_
     refine lx_nil ?_
     refine wk_cond_t rfl ?_
     refine wk_skip ?_
     refine wk_block ?_
     refine wk_seq ?_
     refine wk_region ?_
     refine lx_value (want rfl) (rn_fieldAddr fa_45_1 (A1.at 2 rfl rfl)) ?_
     refine lx_value (want rfl) (rn_load1Blk ag_43 rfl BL1_1 rfl) ?_
     refine lx_value (want rfl) (rn_fieldAddr fa_36_1 (A1.at 7 rfl rfl)) ?_
     refine lx_value (want rfl) (rn_load1Blk ag_3 rfl BL1_3 rfl) ?_
     refine lx_value (want rfl) (rn_index (num vq) Tryz.underlying43 sz_30 rfl rfl (num_eq hvr.1).symm hvr.2) ?_
     refine lx_value (want rfl) (rn_load1 ag_30 rfl (F7.cell (fun h => h) hcy)) ?_
     refine lx_value (want rfl) (as_slice rfl) ?_
     refine lx_nil ?_
     refine wk_seq ?_
     refine wk_seq ?_
     refine wk_region ?_
     refine lx_value (want rfl) (mv_slice rfl) ?_
     refine lx_value (want rfl) (rn_len Tryz.underlying30 rfl) ?_
     refine lx_value (want rfl) (rn_neq rfl rfl) ?_
     refine lx_dec (fun h2 => ?_) (fun h2 => ?_)
     ·
      have hend := stq_two hq hy (by omega)
      refine lx_value (want rfl) (mv_bool rfl) ?_
      refine lx_skip (want_if (j := 3) (d := 44) (x := false) (y := true) rfl rfl (by decide) rfl) ?_
      refine lx_skip (want_if (j := 3) (d := 44) (x := false) (y := true) rfl rfl (by decide) rfl) ?_
      refine lx_skip (want_if (j := 3) (d := 44) (x := false) (y := true) rfl rfl (by decide) rfl) ?_
      refine lx_skip (want_if (j := 3) (d := 44) (x := false) (y := true) rfl rfl (by decide) rfl) ?_
      refine lx_skip (want_if (j := 3) (d := 44) (x := false) (y := true) rfl rfl (by decide) rfl) ?_
      refine lx_value (want rfl) (pick_t rfl rfl) ?_
      refine lx_nil ?_
      refine wk_cond_t rfl ?_
      refine wk_exit ?_
      refine wk_seq ?_
      refine wk_mix 3 (fun _ => .none) (by kernel_rfl) (by kernel_rfl) (fun kS G hk => by cases hk) (fun kS s y G hk => by cases hk) ?_
      simp only [List.take_succ_cons, List.take_zero, List.take_nil, List.drop_succ_cons, List.drop_zero, List.drop_nil]
      refine mx_calm rfl (want rfl) (fun u1 eu1 fu1 => mv_slice ho1_4) ?_
      refine mx_calm rfl (want rfl) (fun u2 eu2 fu2 => rn_loadBlk ag_36 sz_36 (A1.at 7 rfl rfl) (BL1_3.ext ((ext_drawn _).trans' eu2)) rfl rfl) ?_
      refine mx_calm rfl (want rfl) (fun u3 eu3 fu3 => as_slice rfl) ?_
      refine mx_nil (fun w8 E3' H1 HS => ?_)
      have E3 := (ext_drawn _).trans' E3'
      have F8 := F7.ext E3
      have hz3 := E3.size
      refine lx_set (want rfl) sz_36 (A1.at 5 rfl rfl) (t_agg rfl) rfl rfl rfl (BL1_2.ext E3) (Nat.le_of_ble_eq_true rfl) ?_
      intro w9 Es2 Bs2
      have F9 := F8.set Es2 (by omega)
      have hzs2 := Es2.size
      refine lx_value (want rfl) (as_int rfl) ?_
      refine lx_nil ?_
      refine wk_ret ?_
      refine retR3 Tryz.results50 (.tmp (t_slice rfl)) (.cell (A1.at 5 rfl rfl) (run_loadVar_blk ag_36 sz_36 Bs2 rfl rfl)) (.tmp (t_int rfl)) F9 ?_
      first | exact outZ_0 hp hv0 hend (own_ints ((ow1L_4.ext E3).ne Es2 (fun h => ne1L_4_2 _ h rfl)) ge1L_4) | exact outZ_3 hp hin | exact outZ_4 (by rw [hp]; decide)
     ·
      replace h2 := Decidable.not_not.1 h2
      obtain ⟨a, b, rfl⟩ := two_of h2
      obtain ⟨ba, oa, rfl, hGa, hca⟩ := hpy 0 a rfl
      obtain ⟨b9, o9, e9, _, hcb⟩ := hpy 1 b rfl
      obtain ⟨rfl, rfl⟩ : ba = b9 ∧ oa = o9 := by injection e9 with e; injection e with e1 e2; exact ⟨e1, e2⟩
      refine lx_value (want rfl) (mv_bool rfl) ?_
      refine lx_value (want_if (j := 3) (d := 44) (x := false) (y := false) rfl rfl (by decide) rfl) (mv_slice rfl) ?_
      refine lx_value (want_if (j := 3) (d := 44) (x := false) (y := false) rfl rfl (by decide) rfl) (rn_index 0 Tryz.underlying30 sz_36 rfl rfl rfl (show 0 < 2 by decide)) ?_
      refine lx_value (want_if (j := 3) (d := 44) (x := false) (y := false) rfl rfl (by decide) rfl) (rn_fieldAddr fa_36_0 rfl) ?_
      refine lx_value (want_if (j := 3) (d := 44) (x := false) (y := false) rfl rfl (by decide) rfl) (rn_load1 ag_5 rfl (F7.cell (fun h => h) (hca 0 _ rfl))) ?_
      refine lx_value (want_if (j := 3) (d := 44) (x := false) (y := false) rfl rfl (by decide) rfl) (rn_neq rfl rfl) ?_
      refine lx_dec (fun h1 => ?_) (fun h1 => ?_)
      ·
       have hend := stq_one hq hy h1
       refine lx_value (want rfl) (pick_f rfl rfl) ?_
       refine lx_nil ?_
       refine wk_cond_t rfl ?_
       refine wk_exit ?_
       refine wk_seq ?_
       refine wk_mix 3 (fun _ => .none) (by kernel_rfl) (by kernel_rfl) (fun kS G hk => by cases hk) (fun kS s y G hk => by cases hk) ?_
       simp only [List.take_succ_cons, List.take_zero, List.take_nil, List.drop_succ_cons, List.drop_zero, List.drop_nil]
       refine mx_calm rfl (want rfl) (fun u4 eu4 fu4 => mv_slice ho1_4) ?_
       refine mx_calm rfl (want rfl) (fun u5 eu5 fu5 => rn_loadBlk ag_36 sz_36 (A1.at 7 rfl rfl) (BL1_3.ext ((ext_drawn _).trans' eu5)) rfl rfl) ?_
       refine mx_calm rfl (want rfl) (fun u6 eu6 fu6 => as_slice rfl) ?_
       refine mx_nil (fun w8 E4' H2 HS => ?_)
       have E4 := (ext_drawn _).trans' E4'
       have F10 := F7.ext E4
       have hz4 := E4.size
       refine lx_set (want rfl) sz_36 (A1.at 5 rfl rfl) (t_agg rfl) rfl rfl rfl (BL1_2.ext E4) (Nat.le_of_ble_eq_true rfl) ?_
       intro w9 Es3 Bs3
       have F11 := F10.set Es3 (by omega)
       have hzs3 := Es3.size
       refine lx_value (want rfl) (as_int rfl) ?_
       refine lx_nil ?_
       refine wk_ret ?_
       refine retR3 Tryz.results50 (.tmp (t_slice rfl)) (.cell (A1.at 5 rfl rfl) (run_loadVar_blk ag_36 sz_36 Bs3 rfl rfl)) (.tmp (t_int rfl)) F11 ?_
       first | exact outZ_0 hp hv0 hend (own_ints ((ow1L_4.ext E4).ne Es3 (fun h => ne1L_4_2 _ h rfl)) ge1L_4) | exact outZ_3 hp hin | exact outZ_4 (by rw [hp]; decide)
      ·
       replace h1 := Decidable.not_not.1 h1
       have hlen1 : (L ++ [a.2]).length = L.length + 1 := by simp
       refine lx_value (want rfl) (pick_f rfl rfl) ?_
       refine lx_nil ?_
       refine wk_cond_f rfl ?_
       refine wk_skip ?_
       have hge4 := ge1L_4
       have ca1 := F7.cell (p := ⟨ba, _, none⟩) (fun h => h) (hca 1 _ rfl)
       have cb0 := F7.cell (p := ⟨ba, _, none⟩) (fun h => h) (hcb 0 _ rfl)
       have cb1 := F7.cell (p := ⟨ba, _, none⟩) (fun h => h) (hcb 1 _ rfl)
       have hOw := ow1L_4
       have hSl : ∀ k, (ob so1_4) k → k < w7.heap.size := fun k h => (ow1L_4).lt h
       refine wk_mixA 11 6 (ob so1_4) (fun kS => match kS with | 5 => .any (fun I v w => ∃ b, v = .slice (some ⟨b, 0, none⟩) 1 1 ∧ w7.heap.size ≤ b ∧ (I.1 ≤ b ∧ b < I.2) ∧ Blk w b [.int .i64 a.2] 3) | 6 => .any (fun I v w => ∃ s c, v = .slice s (L.length + 1) c ∧ OwnS w 3 1 s (L.length + 1) c ((L.flatMap intC) ++ [.int .i64 a.2]) ∧ ∀ k, ob s k → (ob so1_4 k ∨ w7.heap.size ≤ k)) | _ => .none) (by kernel_rfl) (by kernel_rfl) (by intro kS G hk; (try dsimp only at hk); (split at hk) <;> first | (cases hk; done) | (injection hk with hk; subst hk; exact ⟨by intro j hkj I v w w' hR hG; first | exact hG | (obtain ⟨b, h1, h2, hI, h3⟩ := hG; exact ⟨b, h1, h2, hI, h3.fr (mS hR) (fun hs => by have := hOw.lt hs; omega)⟩) | (obtain ⟨s, c, h1, h2, h3⟩ := hG; exact ⟨s, c, h1, h2.ext (mT hkj hR), h3⟩), fun ⟨_, _, _, _, hs⟩ => by (try dsimp only at hs); split at hs <;> cases hs⟩)) (by intro kS s y G hk; (try dsimp only at hk); split at hk <;> cases hk) ?_
       simp only [List.take_succ_cons, List.take_zero, List.take_nil, List.drop_succ_cons, List.drop_zero, List.drop_nil]
       refine mx_calm rfl (want rfl) (fun u7 eu7 fu7 => mv_slice ho1_4) ?_
       refine mx_calm rfl (want rfl) (fun u8 eu8 fu8 => mv_slice rfl) ?_
       refine mx_calm rfl (want rfl) (fun u9 eu9 fu9 => rn_index 0 Tryz.underlying30 sz_36 rfl rfl rfl (show 0 < 2 by decide)) ?_
       refine mx_calm rfl (want rfl) (fun u10 eu10 fu10 => rn_fieldAddr fa_36_1 rfl) ?_
       refine mx_calm rfl (want rfl) (fun u11 eu11 fu11 => rn_load1 ag_3 rfl ((mD (by decide) eu11).cell (fun h => by have h1 := hge4 _ h; (try dsimp only at h1); have h2 := hGa.2; omega) ca1)) ?_
       refine mx_any rfl rfl (want rfl) (fun u12 eu12 fu12 => (do_newS2 (rn_bslice (xs := [.tmp 55]) Tryz.underlying77 sz_3 ze_3 rfl (argsC (t_int rfl) args0) (CL.cons rfl rfl CL.nil) rfl (Nat.le_of_ble_eq_true rfl)) (show _ ≤ _ from ((mD (by decide) eu12)).size)).mono (fun v w' h => ⟨(mE (by decide) h.1), h.2⟩)) (fun I56 v56 => ?_)
       refine mx_any rfl rfl (want rfl) (fun u13 eu13 fu13 => by obtain ⟨bS, rfl, hbS, _, hBS⟩ := fu13 56 _ rfl (show (56 : Nat) ∈ _ from by decide); exact do_append 8 Tryz.underlying77 ti_3 (by decide) rfl (by decide) rfl rfl (ow1L_4.ext (mC eu13)) (Src.blk hBS rfl rfl) (by omega) (fun sA cA wA AP => ⟨(mF AP.fr), ⟨sA, cA, rfl, AP.own, fun k hk => (AP.blk k hk).elim .inl (fun h => .inr (Nat.le_trans (mC eu13).size h))⟩⟩)) (fun I57 v57 => ?_)
       refine mx_calm rfl (want rfl) (fun u14 eu14 fu14 => mv_slice rfl) ?_
       refine mx_calm rfl (want rfl) (fun u15 eu15 fu15 => rn_index 1 Tryz.underlying30 sz_36 rfl rfl rfl (show 1 < 2 by decide)) ?_
       refine mx_calm rfl (want rfl) (fun u16 eu16 fu16 => rn_load2 ag_36 sz_36 rfl ((mD (by decide) eu16).cell (fun h => by have h1 := hge4 _ h; (try dsimp only at h1); have h2 := hGa.2; omega) cb0) ((mD (by decide) eu16).cell (fun h => by have h1 := hge4 _ h; (try dsimp only at h1); have h2 := hGa.2; omega) cb1)) ?_
       refine mx_calm (v := .slice (sad v57) (L.length + 1) (scp v57)) rfl (want rfl) (fun u17 eu17 fu17 => by obtain ⟨s9, c9, rfl, _, _⟩ := fu17 57 _ rfl (show (57 : Nat) ∈ _ from by decide); exact as_slice rfl) ?_
       refine mx_nil (fun w8 E5' H3 HS => ?_)
       have E5 := mG E5'
       have hI57 := (HS.1 57 _ rfl).2
       have hI56 := (HS.1 56 _ rfl).2
       have hX57_56 := HS.2 57 _ 56 _ rfl rfl (show (57 : Nat) ≠ 56 from by decide)
       simp only at hI57
       simp only at hI56
       simp only at hX57_56
       have g57 := H3 57 _ rfl
       obtain ⟨sq2, cq2, rfl, hO2, hI2⟩ := g57
       have g56 := H3 56 _ rfl
       have AP2 : Apd w7 _ _ so1_4 _ _ sq2 cq2 w8 := ⟨hO2, E5, hI2⟩
       have EA2 := AP2.fr
       have ow2 := AP2.own
       have ge2 : ∀ k, ob sq2 k → w0.heap.size ≤ k := fun k hk => (AP2.blk k hk).elim (ge1L_4 k) (fun h => (Nat.le_trans F7.size h))
       have ne2_1 : ∀ k, ob sq2 k → k ≠ b1 := fun k hk => (AP2.blk k hk).elim (ne1L_4_1 k) (fun h => by have := (BL1_1).lt; omega)
       have ne2_2 : ∀ k, ob sq2 k → k ≠ b2 := fun k hk => (AP2.blk k hk).elim (ne1L_4_2 k) (fun h => by have := (BL1_2).lt; omega)
       have ne2_3 : ∀ k, ob sq2 k → k ≠ b3 := fun k hk => (AP2.blk k hk).elim (ne1L_4_3 k) (fun h => by have := (BL1_3).lt; omega)
       have F12 := F7.new EA2 ge1L_4
       have hzA2 := EA2.size
       have BA2_1 := BL1_1.fr EA2 (fun h => ne1L_4_1 _ h rfl)
       have BA2_2 := BL1_2.fr EA2 (fun h => ne1L_4_2 _ h rfl)
       have BA2_3 := BL1_3.fr EA2 (fun h => ne1L_4_3 _ h rfl)
       refine lx_set (want rfl) sz_36 (A1.at 7 rfl rfl) (t_agg rfl) rfl rfl rfl BA2_3 (Nat.le_of_ble_eq_true rfl) ?_
       intro w9 Es4 Bs4
       have F13 := F12.set Es4 (by omega)
       have hzs4 := Es4.size
       refine lx_nil ?_
       exact ⟨rfl, (((((((((((((((((((((((((((((((((((((A1.up rfl _).up rfl _).up rfl _).up rfl _).up rfl _).up rfl _).up rfl _).up rfl _).up rfl _).up rfl _).up rfl _).up rfl _).up rfl _).up rfl _).up rfl _).up rfl _).up rfl _).up rfl _).up rfl _).up rfl _).up rfl _).up rfl _).up rfl _).up rfl _).up rfl _).up rfl _).up rfl _).up rfl _).up rfl _).up rfl _).up rfl _).up rfl _).up rfl _).up rfl _).up rfl _).up rfl _).none _), Fr.between F6 F13 (by omega), _, (by omega), L ++ [a.2], b, sq2, cq2, rfl, (BA2_1.ne Es4 (by omega)), (BA2_2.ne Es4 (by omega)), Bs4, (slot_app rfl), (own_more (ow2.ne Es4 (fun h => ne2_3 _ h rfl)) rfl), ge2, ne2_1, ne2_2, ne2_3, (by omega), (stq_on hq (by omega) h4 hy h1), (hyv b (by simp))⟩
    ·
     have hend := stq_kind hq h4
     refine lx_value (want rfl) (pick_t rfl rfl) ?_
     refine lx_nil ?_
     refine wk_cond_f rfl ?_
     refine wk_exit ?_
     refine wk_seq ?_
     refine wk_mix 3 (fun _ => .none) (by kernel_rfl) (by kernel_rfl) (fun kS G hk => by cases hk) (fun kS s y G hk => by cases hk) ?_
     simp only [List.take_succ_cons, List.take_zero, List.take_nil, List.drop_succ_cons, List.drop_zero, List.drop_nil]
     refine mx_calm rfl (want rfl) (fun u18 eu18 fu18 => mv_slice ho1_4) ?_
     refine mx_calm rfl (want rfl) (fun u19 eu19 fu19 => rn_loadBlk ag_36 sz_36 (A1.at 7 rfl rfl) (BL1_3.ext ((ext_drawn _).trans' eu19)) rfl rfl) ?_
     refine mx_calm rfl (want rfl) (fun u20 eu20 fu20 => as_slice rfl) ?_
     refine mx_nil (fun w8 E6' H4 HS => ?_)
     have E6 := (ext_drawn _).trans' E6'
     have F14 := F7.ext E6
     have hz6 := E6.size
     refine lx_set (want rfl) sz_36 (A1.at 5 rfl rfl) (t_agg rfl) rfl rfl rfl (BL1_2.ext E6) (Nat.le_of_ble_eq_true rfl) ?_
     intro w9 Es5 Bs5
     have F15 := F14.set Es5 (by omega)
     have hzs5 := Es5.size
     refine lx_value (want rfl) (as_int rfl) ?_
     refine lx_nil ?_
     refine wk_ret ?_
     refine retR3 Tryz.results50 (.tmp (t_slice rfl)) (.cell (A1.at 5 rfl rfl) (run_loadVar_blk ag_36 sz_36 Bs5 rfl rfl)) (.tmp (t_int rfl)) F15 ?_
     first | exact outZ_0 hp hv0 hend (own_ints ((ow1L_4.ext E6).ne Es5 (fun h => ne1L_4_2 _ h rfl)) ge1L_4) | exact outZ_3 hp hin | exact outZ_4 (by rw [hp]; decide)
   ·
    have hend := stq_full hq (by omega)
    refine lx_value (want rfl) (mv_bool rfl) ?_
    refine lx_skip (want_if (j := 3) (d := 30) (x := true) (y := false) rfl rfl (by decide) rfl) ?_
    refine lx_skip (want_if (j := 3) (d := 30) (x := true) (y := false) rfl rfl (by decide) rfl) ?_
    refine lx_skip (want_if (j := 3) (d := 30) (x := true) (y := false) rfl rfl (by decide) rfl) ?_
    refine lx_value (want rfl) (pick_f rfl rfl) ?_
    refine lx_nil ?_
    refine wk_cond_f rfl ?_
    refine wk_exit ?_
    refine wk_seq ?_
    refine wk_mix 3 (fun _ => .none) (by kernel_rfl) (by kernel_rfl) (fun kS G hk => by cases hk) (fun kS s y G hk => by cases hk) ?_
    simp only [List.take_succ_cons, List.take_zero, List.take_nil, List.drop_succ_cons, List.drop_zero, List.drop_nil]
    refine mx_calm rfl (want rfl) (fun u21 eu21 fu21 => mv_slice ho1_4) ?_
    refine mx_calm rfl (want rfl) (fun u22 eu22 fu22 => rn_loadBlk ag_36 sz_36 (A1.at 7 rfl rfl) (BL1_3.ext ((ext_drawn _).trans' eu22)) rfl rfl) ?_
    refine mx_calm rfl (want rfl) (fun u23 eu23 fu23 => as_slice rfl) ?_
    refine mx_nil (fun w8 E7' H5 HS => ?_)
    have E7 := (ext_drawn _).trans' E7'
    have F16 := F7.ext E7
    have hz7 := E7.size
    refine lx_set (want rfl) sz_36 (A1.at 5 rfl rfl) (t_agg rfl) rfl rfl rfl (BL1_2.ext E7) (Nat.le_of_ble_eq_true rfl) ?_
    intro w9 Es6 Bs6
    have F17 := F16.set Es6 (by omega)
    have hzs6 := Es6.size
    refine lx_value (want rfl) (as_int rfl) ?_
    refine lx_nil ?_
    refine wk_ret ?_
    refine retR3 Tryz.results50 (.tmp (t_slice rfl)) (.cell (A1.at 5 rfl rfl) (run_loadVar_blk ag_36 sz_36 Bs6 rfl rfl)) (.tmp (t_int rfl)) F17 ?_
    first | exact outZ_0 hp hv0 hend (own_ints ((ow1L_4.ext E7).ne Es6 (fun h => ne1L_4_2 _ h rfl)) ge1L_4) | exact outZ_3 hp hin | exact outZ_4 (by rw [hp]; decide)
  ·
   replace hin := of_decide_eq_false hin
   refine lx_value (want rfl) (rn_not rfl) ?_
   refine lx_nil ?_
   refine wk_cond_t rfl ?_
   refine wk_seq ?_
   refine wk_region ?_
   refine lx_value (want rfl) (rn_build0  (fun w => bd_36  w)) ?_
   refine lx_value (want rfl) (as_slice rfl) ?_
   refine lx_set (want rfl) sz_36 rfl (t_agg rfl) rfl rfl rfl ((B2.ext E1).ext E2) (Nat.le_of_ble_eq_true rfl) ?_
   intro w5 Es7 Bs7
   have F18 := F4.set Es7 (by omega)
   have hzs7 := Es7.size
   refine lx_value (want rfl) (as_int rfl) ?_
   refine lx_nil ?_
   refine wk_ret ?_
   refine retR3 Tryz.results50 (.tmp (t_slice rfl)) (.cell rfl (run_loadVar_blk ag_36 sz_36 Bs7 rfl rfl)) (.tmp (t_int rfl)) F18 ?_
   first | exact outZ_3 hp hin | exact outZ_4 (by rw [hp]; decide)
 ·
  refine lx_value (want rfl) (rn_not rfl) ?_
  refine lx_nil ?_
  refine wk_cond_t rfl ?_
  refine wk_seq ?_
  refine wk_region ?_
  refine lx_value (want rfl) (rn_build0  (fun w => bd_36  w)) ?_
  refine lx_value (want rfl) (as_slice rfl) ?_
  refine lx_set (want rfl) sz_36 rfl (t_agg rfl) rfl rfl rfl (B2.ext E1) (Nat.le_of_ble_eq_true rfl) ?_
  intro w4 Es8 Bs8
  have F19 := F3.set Es8 (by omega)
  have hzs8 := Es8.size
  refine lx_value (want rfl) (as_int rfl) ?_
  refine lx_nil ?_
  refine wk_ret ?_
  refine retR3 Tryz.results50 (.tmp (t_slice rfl)) (.cell rfl (run_loadVar_blk ag_36 sz_36 Bs8 rfl rfl)) (.tmp (t_int rfl)) F19 ?_
  first | exact outZ_3 hp hin | exact outZ_4 (by rw [hp]; decide)

theorem pPlay_ct (m : Mem) (s : Option Addr) (c : Nat) (G : Nat → Prop) (hB : Bm m) (l : List Op) (sl : Option Addr) (cl : Nat) (H : Nat → Prop) (hkd : ∀ o ∈ l, 0 ≤ o.kind ∧ o.kind < 256) (hlb : l.length ≤ 100000) (w0 : World) (hm : MemS G w0 s m) (hl : OpS H w0 sl l) :
  CT Tryz.prog 22 [.agg #[.slice s m.length c], .slice sl l.length cl] w0 no (fun v w => OutP G w0.heap.size w v (playR m l)) := by
 have hBl := hB.1
 have F0 := Fr.refl no w0
 refine ct_body Tryz.func22 rfl Tryz.ntmps22 (Nat.le_of_ble_eq_true rfl) ?_
 refine wk_seq ?_
 refine wk_region ?_
 refine lx_new (want rfl) (rn_box (t_agg rfl)) ?_
 intro b1 w1 hb1 Eb1 B1 hlb1
 have F1 := F0.ext Eb1
 have hzb1 := Eb1.size
 refine lx_new (want rfl) (rn_alloc ze_24) ?_
 intro b2 w2 hb2 Eb2 B2 hlb2
 have F2 := F1.ext Eb2
 have hzb2 := Eb2.size
 refine lx_value (want rfl) (as_slice rfl) ?_
 refine lx_value (want rfl) (as_slice rfl) ?_
 refine lx_value (want rfl) (as_int rfl) ?_
 refine lx_value (want rfl) (as_int rfl) ?_
 refine lx_nil ?_
 refine wk_seq ?_
 refine wk_region ?_
 refine lx_value (want rfl) (rn_loadBlk ag_24 sz_24 rfl (B1.ext Eb2) rfl rfl) ?_
 refine lx_call (want rfl) (ent_func cf_70 (argsC (t_agg rfl) args0)) (CT.mono (open_ct m s c _ hB w2 (hm.fr (st_stab _) F2 (fun _ _ h => h))) (fun _ _ h => h) (fun v w2 _ h => h.all)) ?_
 rintro _ w3 E1 ⟨ad, rfl, hop⟩
 have F3 := F2.ext E1
 have hz1 := E1.size
 refine lx_value (want rfl) (mv_tuple rfl) ?_
 refine lx_value (want rfl) (rn_extract rfl rfl) ?_
 refine lx_value (want rfl) (rn_extract rfl rfl) ?_
 refine lx_value (want rfl) (as_pointer rfl) ?_
 refine lx_value (want rfl) (as_int rfl) ?_
 refine lx_nil ?_
 refine wk_seq ?_
 refine wk_seq ?_
 refine wk_region ?_
 refine lx_value (want rfl) (mv_int rfl) ?_
 refine lx_value (want rfl) (rn_neq rfl rfl) ?_
 refine lx_dec (fun he => ?_) (fun he => ?_)
 ·
  refine lx_nil ?_
  refine wk_cond_t rfl ?_
  refine wk_seq ?_
  refine wk_region ?_
  refine lx_value (want rfl) (rn_loadBlk ag_24 sz_24 rfl (B2.ext E1) rfl rfl) ?_
  refine lx_value (want rfl) (mv_int rfl) ?_
  refine lx_set (want rfl) sz_24 rfl (t_agg rfl) rfl rfl rfl (B2.ext E1) (Nat.le_of_ble_eq_true rfl) ?_
  intro w4 Es1 Bs1
  have F4 := F3.set Es1 (by omega)
  have hzs1 := Es1.size
  refine lx_value (want rfl) (as_slice rfl) ?_
  refine lx_value (want rfl) (as_slice rfl) ?_
  refine lx_value (want rfl) (as_int rfl) ?_
  refine lx_value (want rfl) (as_int rfl) ?_
  refine lx_nil ?_
  refine wk_ret ?_
  refine retR5 Tryz.results22 (.cell rfl (run_loadVar_blk ag_24 sz_24 Bs1 rfl rfl)) (.tmp (t_slice rfl)) (.tmp (t_slice rfl)) (.tmp (t_int rfl)) (.tmp (t_int rfl)) F4 ?_
  exact outP_chk he
 ·
  obtain ⟨b, Z, rfl, hM, hZ⟩ := hop he
  have hok := chk_0 he
  have hZinc := fun (k : Nat) (hk : zz zn Z k) => (Or.inr (hZ k hk) : zz none (fun _ => False) k ∨ _)
  have tg2 : ∀ k, zz zn Z k → w0.heap.size ≤ k := fun k hk => (hZinc k hk).elim ((fun _ h => zz_nil h) k) (fun h => by omega)
  have tn2_1 : ∀ k, zz zn Z k → k ≠ b1 := fun k hk => (hZinc k hk).elim ((fun _ h => zz_nil h) k) (fun h => by have := (B1).lt; omega)
  have tn2_2 : ∀ k, zz zn Z k → k ≠ b2 := fun k hk => (hZinc k hk).elim ((fun _ h => zz_nil h) k) (fun h => by have := (B2).lt; omega)
  have ts2_4 : ∀ k, zz zn Z k → ob none k → False := fun k hk h2 => (hZinc k hk).elim (fun h => (fun _ h _ => zz_nil h) k h h2) (fun h => by have := ((OwnS.nil w2 36 2)).lt h2; omega)
  refine lx_nil ?_
  refine wk_cond_f rfl ?_
  refine wk_skip ?_
  refine wk_seq ?_
  refine wk_seq ?_
  refine wk_region ?_
  refine lx_value (want rfl) (mv_slice rfl) ?_
  refine lx_value (want rfl) (rn_len Tryz.underlying25 rfl) ?_
  refine lx_value (want rfl) (mv_int rfl) ?_
  refine lx_nil ?_
  refine wk_block ?_
  refine wk_loopA [5, 8, 11, 12, 24, 25, 26, 27, 28, 29, 30, 31, 32, 33, 34, 35, 36, 37, 38, 39, 40] (fun j => no j ∨ w0.heap.size ≤ j) (fun nM ρ w => ∃ (i : Nat) (mM : Mem) (gM : List Vl) (tM : List Tl) (so1_4 : Option Addr) (co1_4 : Nat) (TT1_1 : Nat → Prop), nM = l.length - i ∧ ρ 24 = .int .i64 i ∧ ρ 8 = .int .i64 0 ∧ Blk w b1 (cellsOf B1) 24 ∧ Blk w b2 (cellsOf B2) 24 ∧ ρ 5 = .slice so1_4 (gM.length) co1_4 ∧ OwnS w 36 2 so1_4 (gM.length) co1_4 (gM.flatMap vlC) ∧ (∀ k, ob so1_4 k → w0.heap.size ≤ k) ∧ (∀ k, ob so1_4 k → k ≠ b1) ∧ (∀ k, ob so1_4 k → k ≠ b2) ∧ MO TT1_1 w b mM tM ∧ (∀ k, zz zn TT1_1 k → w0.heap.size ≤ k) ∧ (∀ k, zz zn TT1_1 k → k ≠ b1) ∧ (∀ k, zz zn TT1_1 k → k ≠ b2) ∧ (∀ k, zz zn TT1_1 k → ob so1_4 k → False) ∧ (i ≤ l.length) ∧ (okM mM = true) ∧ (gM.length = i) ∧ (tM.length ≤ 6000 * i) ∧ (playF mM (l.drop i) gM tM = playF m l [] [])) _ ⟨0, m, [], [], none, 0, Z, rfl, rfl, ((show _ = Value.int .i64 (chkE m) from rfl).trans (congrArg (Value.int .i64) (Decidable.not_not.1 he))), ((B1.ext Eb2).ext E1), (B2.ext E1), rfl, ((OwnS.nil w2 36 2).ext E1), (fun _ h => ob_none h), (fun _ h => ob_none h), (fun _ h => ob_none h), hM, tg2, tn2_1, tn2_2, ts2_4, by omega, hok, rfl, Nat.zero_le _, by rw [List.drop_zero]⟩ ?_
  rintro n1 ρ1 w4 A1 EL1 ⟨i, mM, gM, tM, so1_4, co1_4, TT1_1, rfl, hs1_24, hs1_8, BL1_1, BL1_2, ho1_4, ow1L_4, ge1L_4, ne1L_4_1, ne1L_4_2, tw1L_1, tg1L_1, tn1L_1_1, tn1L_1_2, ts1L_1_4, hi, hokM, hgl, htl, hpl⟩
  have F5 := F3.wide EL1
  have hzL1 := EL1.size
  refine wk_seq ?_
  refine wk_region ?_
  refine lx_value (want rfl) (rn_lss hs1_24 (A1.at 23 rfl rfl)) ?_
  refine lx_dec (fun hlt => ?_) (fun hlt => ?_)
  ·
   obtain ⟨o, ho⟩ := getx hlt
   obtain ⟨bo, oo, rfl, _, hco⟩ := hl i o ho
   refine lx_nil ?_
   refine wk_seq ?_
   refine wk_cond_t rfl ?_
   refine wk_skip ?_
   refine wk_seq ?_
   refine wk_block ?_
   refine wk_seq ?_
   refine wk_region ?_
   refine lx_value (want rfl) (rn_index _ Tryz.underlying25 sz_38 (A1.at 22 rfl rfl) hs1_24 rfl (by omega)) ?_
   refine lx_value (want rfl) (rn_loadN (vs := opC o) ag_38 sz_38 rfl rfl (fun j u hj => (F5.cell (fun h => h) (hco j u hj)))) ?_
   refine lx_new (want rfl) (rn_alloc ze_38) ?_
   intro b3 w5 hb3 Eb3 B3 hlb3
   have F6 := F5.ext Eb3
   have hzb3 := Eb3.size
   have nb1 : ∀ k, ob so1_4 k → k ≠ b3 := fun k hk => by have := (ow1L_4).lt hk; omega
   have nb2 : ∀ k, zz zn TT1_1 k → k ≠ b3 := fun k hk => by have := (tw1L_1).lt hk; omega
   refine lx_set (want rfl) sz_38 rfl (t_agg rfl) rfl rfl rfl B3 (Nat.le_of_ble_eq_true rfl) ?_
   intro w6 Es2 Bs2
   have F7 := F6.set Es2 (by omega)
   have hzs2 := Es2.size
   refine lx_nil ?_
   refine wk_seq ?_
   refine wk_region ?_
   refine lx_new (want rfl) (rn_alloc ze_36) ?_
   intro b4 w7 hb4 Eb4 B4 hlb4
   have F8 := F7.ext Eb4
   have hzb4 := Eb4.size
   have nb3 : ∀ k, ob so1_4 k → k ≠ b4 := fun k hk => by have := (ow1L_4).lt hk; omega
   have nb4 : ∀ k, zz zn TT1_1 k → k ≠ b4 := fun k hk => by have := (tw1L_1).lt hk; omega
   refine lx_nil ?_
   refine wk_seq ?_
   refine wk_seq ?_
   refine wk_region ?_
   refine lx_value (want rfl) (mv_pointer (A1.at 9 rfl rfl)) ?_
   refine lx_value (want rfl) (rn_loadBlk ag_38 sz_38 rfl (Bs2.ext Eb4) rfl rfl) ?_
   refine lx_call (want rfl) (ent_func cf_71 (argsC (t_pointer rfl) (argsC (t_agg rfl) args0))) (pdo_ct TT1_1 b mM tM hokM (by omega) o (hkd o (List.mem_of_getElem? ho)) w7 (((tw1L_1.ext Eb3).fr Es2 (fun k hk h => nb2 k hk h)).ext Eb4)) ?_
   rintro _ w8 E2 ⟨rfl, Z2, hM2, hi2⟩
   have F9 := F8.new E2 (fun k h => tg1L_1 k h)
   have hz2 := E2.size
   have tg3 : ∀ k, zz zn Z2 k → w0.heap.size ≤ k := fun k hk => (hi2 k hk).elim (tg1L_1 k) (fun h => by omega)
   have tn3_1 : ∀ k, zz zn Z2 k → k ≠ b1 := fun k hk => (hi2 k hk).elim (tn1L_1_1 k) (fun h => by have := (BL1_1).lt; omega)
   have tn3_2 : ∀ k, zz zn Z2 k → k ≠ b2 := fun k hk => (hi2 k hk).elim (tn1L_1_2 k) (fun h => by have := (BL1_2).lt; omega)
   have tn3_3 : ∀ k, zz zn Z2 k → k ≠ b3 := fun k hk => (hi2 k hk).elim (nb2 k) (fun h => by have := (Bs2).lt; omega)
   have tn3_4 : ∀ k, zz zn Z2 k → k ≠ b4 := fun k hk => (hi2 k hk).elim (nb4 k) (fun h => by have := (B4).lt; omega)
   have ts3_4 : ∀ k, zz zn Z2 k → ob so1_4 k → False := fun k hk h2 => (hi2 k hk).elim (fun h => ts1L_1_4 k h h2) (fun h => by have := (ow1L_4).lt h2; omega)
   refine lx_value (want rfl) (mv_tuple rfl) ?_
   refine lx_value (want rfl) (rn_extract rfl rfl) ?_
   refine lx_value (want rfl) (rn_extract rfl rfl) ?_
   refine lx_set (want rfl) sz_36 rfl (t_agg rfl) rfl rfl rfl (B4.fr E2 (fun h => nb4 _ h rfl)) (Nat.le_of_ble_eq_true rfl) ?_
   intro w9 Es3 Bs3
   have F10 := F9.set Es3 (by omega)
   have hzs3 := Es3.size
   refine lx_value (want rfl) (as_int rfl) ?_
   refine lx_nil ?_
   refine wk_seq ?_
   refine wk_region ?_
   refine lx_value (want rfl) (mv_int rfl) ?_
   refine lx_value (want rfl) (rn_neq rfl rfl) ?_
   refine lx_dec (fun herr => ?_) (fun herr => ?_)
   ·
    refine lx_nil ?_
    refine wk_cond_t rfl ?_
    refine wk_exit ?_
    refine wk_seq ?_
    obtain ⟨sN, cN, TN, stN, ctN, hTN, hBN, hTmN, hON, hq1, hq2, hq3, hzb, hzt, hzo, _⟩ := (hM2.fr Es3 (fun k hk h => tn3_4 k hk h))
    have hTlN := congrArg List.length hTN
    rw [List.length_map] at hTlN
    have hgb : w0.heap.size ≤ b := tg3 b hzb
    have hgt : ∀ k, mtb sN TN k → w0.heap.size ≤ k := fun k h => tg3 k (hzt k h)
    have hgo : ∀ k, ob stN k → w0.heap.size ≤ k := fun k h => tg3 k (hzo k h)
    have hnb1 : b ≠ b1 := tn3_1 b hzb
    have hnt1 : ∀ k, mtb sN TN k → k ≠ b1 := fun k h => tn3_1 k (hzt k h)
    have hno1 : ∀ k, ob stN k → k ≠ b1 := fun k h => tn3_1 k (hzo k h)
    have hnb2 : b ≠ b2 := tn3_2 b hzb
    have hnt2 : ∀ k, mtb sN TN k → k ≠ b2 := fun k h => tn3_2 k (hzt k h)
    have hno2 : ∀ k, ob stN k → k ≠ b2 := fun k h => tn3_2 k (hzo k h)
    have hnb3 : b ≠ b3 := tn3_3 b hzb
    have hnt3 : ∀ k, mtb sN TN k → k ≠ b3 := fun k h => tn3_3 k (hzt k h)
    have hno3 : ∀ k, ob stN k → k ≠ b3 := fun k h => tn3_3 k (hzo k h)
    have hnb4 : b ≠ b4 := tn3_4 b hzb
    have hnt4 : ∀ k, mtb sN TN k → k ≠ b4 := fun k h => tn3_4 k (hzt k h)
    have hno4 : ∀ k, ob stN k → k ≠ b4 := fun k h => tn3_4 k (hzo k h)
    have hst4 : ∀ k, mtb sN TN k → ob so1_4 k → False := fun k h => ts3_4 k (hzt k h)
    have hso4 : ∀ k, ob stN k → ob so1_4 k → False := fun k h => ts3_4 k (hzo k h)
    have hnb_4 : ∀ k, ob so1_4 k → k ≠ b := fun k h e => ts3_4 k (by subst e; exact hzb) h
    have hlbN := hBN.lt
    refine wk_mixK 14 4 (((((BL1_2.ext Eb3).ne Es2 (by omega)).ext Eb4).fr E2 (fun h => tn1L_1_2 _ h rfl)).ne Es3 (by omega)) (fun kS => match kS with | 1 => .val (.agg #[.slice sN TN.length cN]) | 10 => .sto 4 42 (fun J u w => J.1 < J.2 ∧ Blk w J.1 u.cells.toList 24) | _ => .none) (by kernel_rfl) (by kernel_rfl) (by intro kS G hk; (try dsimp only at hk); (split at hk) <;> first | (cases hk; done) | (injection hk with hk; subst hk; exact ⟨by intro j hkj I v w w' hR hG; first | exact hG, fun _ I v w w' hR hG => by first | exact hG⟩)) (by intro kS s y G hk; (try dsimp only at hk); (split at hk) <;> first | (cases hk; done) | (injection hk with hk1 hk2 hk3; subst hk1; subst hk2; subst hk3; exact ⟨by kernel_rfl, by intro j hkj I v w w' hR hG; exact ⟨hG.1, hG.2.ext hR⟩, fun I v w w' hR hG => ⟨hG.1, hG.2.fr hR (fun h => h.2 ⟨Nat.le_refl _, hG.1⟩)⟩⟩)) ?_
    simp only [List.take_succ_cons, List.take_zero, List.take_nil, List.drop_succ_cons, List.drop_zero, List.drop_nil]
    refine mx_calm rfl (want rfl) (fun u1 eu1 fu1 => mv_pointer (A1.at 9 rfl rfl)) ?_
    refine mx_val rfl (want rfl) (fun u2 eu2 fu2 => do_call (ent_func cf_72 (argsC (t_pointer rfl) args0)) (pout_ct b sN TN.length cN _ stN _ ctN u2 (hBN.fr (mG eu2) (show ¬ (b = b2) by omega))) (fun _ _ E h => ⟨E, h⟩)) ?_
    refine mx_calm rfl (want rfl) (fun u3 eu3 fu3 => mv_slice ho1_4) ?_
    refine mx_calm rfl (want rfl) (fun u4 eu4 fu4 => mv_pointer (A1.at 9 rfl rfl)) ?_
    refine mx_calm rfl (want rfl) (fun u5 eu5 fu5 => rn_nilCheck rfl) ?_
    refine mx_calm rfl (want rfl) (fun u6 eu6 fu6 => rn_fieldAddr fa_113_2 rfl) ?_
    refine mx_calm rfl (want rfl) (fun u7 eu7 fu7 => rn_load1Blk ag_31 rfl (hBN.fr (mG eu7) (show ¬ (b = b2) by omega)) rfl) ?_
    refine mx_calm rfl (want rfl) (fun u8 eu8 fu8 => mv_slice ho1_4) ?_
    refine mx_calm rfl (want rfl) (fun u9 eu9 fu9 => rn_len Tryz.underlying30 rfl) ?_
    refine mx_calm rfl (want rfl) (fun u10 eu10 fu10 => mv_int rfl) ?_
    refine mx_sto rfl rfl rfl rfl (want rfl) (fun u11 eu11 fu11 _ => by obtain hB4 := fu11 4 _ rfl (show (4 : Nat) ∈ _ from by decide); exact (do_sto sz_24 (by exact (A1.at 4 rfl rfl)) rfl rfl rfl rfl hB4 rfl ⟨Nat.le_refl _, (Nat.lt_succ_self _)⟩).mono (fun v w' h => ⟨h.1, h.2.1, (Nat.lt_succ_self _), h.2.2⟩)) ?_
    refine mx_calm rfl (want rfl) (fun u12 eu12 fu12 => as_slice rfl) ?_
    refine mx_calm rfl (want rfl) (fun u13 eu13 fu13 => as_slice rfl) ?_
    refine mx_calm rfl (want rfl) (fun u14 eu14 fu14 => as_int rfl) ?_
    refine mx_nil (fun w10 E3' H1 HS => ?_)
    have E3 := mG E3'
    have F11 := F10.set E3 (by omega)
    have hz3 := E3.size
    obtain ⟨_, _, hBK10⟩ := H1 4 _ rfl
    refine lx_value (want rfl) (as_int rfl) ?_
    refine lx_nil ?_
    refine wk_ret ?_
    refine retR5 Tryz.results22 (.cell (A1.at 4 rfl rfl) (run_loadVar_blk ag_24 sz_24 hBK10 rfl rfl)) (.tmp (t_slice rfl)) (.tmp (t_slice rfl)) (.tmp (t_int rfl)) (.tmp (t_int rfl)) F11 ?_
    exact outP_prog hok (by rw [← hpl]; exact playF_err ho herr) (hTN.trans (aft_e herr)) (hTmN.fr E3 (fun k hk h => hnt2 k hk h)) hgt (own_vl ((((((ow1L_4.ext Eb3).ne Es2 (fun h => nb1 _ h rfl)).ext Eb4).fr E2 (fun k h1 h => ts1L_1_4 k h h1)).ne Es3 (fun h => nb3 _ h rfl)).ne E3 (fun h => ne1L_4_2 _ h rfl)) ge1L_4) (by rw [do_told herr, List.append_nil]) (by have h := own_tl (hON.ne E3 (fun h => hno2 _ h rfl)) hgo; rw [do_told herr, List.append_nil] at h; exact h)
   ·
    have herr0 : (doR mM o).1 = 0 := Decidable.not_not.1 herr
    have hokD := (do_ok hokM herr0).1
    have htd := told_le (o := o) hokM
    have hM3 := (hM2.fr Es3 (fun k hk h => tn3_4 k hk h))
    rw [aft_0 herr0] at hM3
    refine lx_nil ?_
    refine wk_cond_f rfl ?_
    refine wk_skip ?_
    refine wk_region ?_
    refine lx_value (want rfl) (mv_slice ho1_4) ?_
    refine lx_value (want rfl) (rn_loadBlk ag_36 sz_36 rfl Bs3 rfl rfl) ?_
    refine lx_newS (want rfl) (rn_bslice (xs := [.tmp 37]) Tryz.underlying30 sz_36 ze_36 rfl (argsC (t_agg rfl) args0) (CL.cons rfl rfl CL.nil) rfl (Nat.le_of_ble_eq_true rfl)) ?_
    intro b5 w10 hb5 Eb5 B5 hlb5
    have F12 := F10.ext Eb5
    have hzb5 := Eb5.size
    have nb5 : ∀ k, ob so1_4 k → k ≠ b5 := fun k hk => by have := (ow1L_4).lt hk; omega
    have nb6 : ∀ k, zz zn Z2 k → k ≠ b5 := fun k hk => by have := (hM3).lt hk; omega
    refine lx_append 16 (want rfl) Tryz.underlying30 ti_36 (by decide) rfl (by decide) rfl rfl ((((((ow1L_4.ext Eb3).ne Es2 (fun h => nb1 _ h rfl)).ext Eb4).fr E2 (fun k h1 h => ts1L_1_4 k h h1)).ne Es3 (fun h => nb3 _ h rfl)).ext Eb5) ((Src.blk B5 rfl rfl)) (by omega) ?_
    intro sq2 cq2 w11 AP2
    have EA2 := AP2.fr
    have ow2 := AP2.own
    have ge2 : ∀ k, ob sq2 k → w0.heap.size ≤ k := fun k hk => (AP2.blk k hk).elim (ge1L_4 k) (fun h => (Nat.le_trans F12.size h))
    have ne2_1 : ∀ k, ob sq2 k → k ≠ b1 := fun k hk => (AP2.blk k hk).elim (ne1L_4_1 k) (fun h => by have := (((((((BL1_1.ext Eb3).ne Es2 (by omega)).ext Eb4).fr E2 (fun h => tn1L_1_1 _ h rfl)).ne Es3 (by omega)).ext Eb5)).lt; omega)
    have ne2_2 : ∀ k, ob sq2 k → k ≠ b2 := fun k hk => (AP2.blk k hk).elim (ne1L_4_2 k) (fun h => by have := (((((((BL1_2.ext Eb3).ne Es2 (by omega)).ext Eb4).fr E2 (fun h => tn1L_1_2 _ h rfl)).ne Es3 (by omega)).ext Eb5)).lt; omega)
    have ne2_3 : ∀ k, ob sq2 k → k ≠ b3 := fun k hk => (AP2.blk k hk).elim (nb1 k) (fun h => by have := (((((Bs2.ext Eb4).fr E2 (fun h => nb2 _ h rfl)).ne Es3 (by omega)).ext Eb5)).lt; omega)
    have ne2_4 : ∀ k, ob sq2 k → k ≠ b4 := fun k hk => (AP2.blk k hk).elim (nb3 k) (fun h => by have := ((Bs3.ext Eb5)).lt; omega)
    have ne2_5 : ∀ k, ob sq2 k → k ≠ b5 := fun k hk => (AP2.blk k hk).elim (nb5 k) (fun h => by have := (B5).lt; omega)
    have F13 := F12.new EA2 ge1L_4
    have hzA2 := EA2.size
    have BA2_1 := ((((((BL1_1.ext Eb3).ne Es2 (by omega)).ext Eb4).fr E2 (fun h => tn1L_1_1 _ h rfl)).ne Es3 (by omega)).ext Eb5).fr EA2 (fun h => ne1L_4_1 _ h rfl)
    have BA2_2 := ((((((BL1_2.ext Eb3).ne Es2 (by omega)).ext Eb4).fr E2 (fun h => tn1L_1_2 _ h rfl)).ne Es3 (by omega)).ext Eb5).fr EA2 (fun h => ne1L_4_2 _ h rfl)
    have BA2_3 := ((((Bs2.ext Eb4).fr E2 (fun h => nb2 _ h rfl)).ne Es3 (by omega)).ext Eb5).fr EA2 (fun h => nb1 _ h rfl)
    have BA2_4 := (Bs3.ext Eb5).fr EA2 (fun h => nb3 _ h rfl)
    have BA2_5 := B5.fr EA2 (fun h => nb5 _ h rfl)
    have sa2_1 : ∀ k, zz zn Z2 k → ob sq2 k → False := fun k hk h2 => (AP2.blk k h2).elim (fun h => ts3_4 k hk h) (fun h => by have := ((hM3.ext Eb5)).lt hk; omega)
    refine lx_value (want rfl) (as_slice rfl) ?_
    refine lx_nil ?_
    refine wk_region ?_
    refine lx_value (want rfl) (rn_add hs1_24 rfl (by omega)) ?_
    refine lx_value (want rfl) (mv_int rfl) ?_
    refine lx_nil ?_
    exact ⟨rfl, (((((((((((((((((((((((A1.up rfl _).up rfl _).up rfl _).up rfl _).none _).up rfl _).up rfl _).up rfl _).up rfl _).up rfl _).up rfl _).up rfl _).none _).up rfl _).up rfl _).up rfl _).up rfl _).up rfl _).up rfl _).up rfl _).up rfl _).up rfl _).up rfl _), Fr.between F3 F13 (by omega), _, (by omega), i + 1, (doR mM o).2.1, (gM ++ [(doR mM o).2.2.1]), (tM ++ (doR mM o).2.2.2), sq2, cq2, Z2, rfl, rfl, ((show _ = Value.int .i64 (doR mM o).1 from rfl).trans (congrArg (Value.int .i64) herr0)), BA2_1, BA2_2, (by rw [List.length_append]; exact rfl), (own_more ow2 rfl), ge2, ne2_1, ne2_2, ((hM3.ext Eb5).fr EA2 (fun k hk h => ts3_4 k hk h)), tg3, tn3_1, tn3_2, sa2_1, by omega, hokD, by rw [List.length_append, hgl]; rfl, by rw [List.length_append]; omega, (by rw [← hpl, playF_on ho herr0])⟩
  ·
   refine lx_nil ?_
   refine wk_seq ?_
   refine wk_cond_f rfl ?_
   refine wk_exit ?_
   refine wk_seq ?_
   obtain ⟨sN, cN, TN, stN, ctN, hTN, hBN, hTmN, hON, hq1, hq2, hq3, hzb, hzt, hzo, _⟩ := tw1L_1
   have hTlN := congrArg List.length hTN
   rw [List.length_map] at hTlN
   have hgb : w0.heap.size ≤ b := tg1L_1 b hzb
   have hgt : ∀ k, mtb sN TN k → w0.heap.size ≤ k := fun k h => tg1L_1 k (hzt k h)
   have hgo : ∀ k, ob stN k → w0.heap.size ≤ k := fun k h => tg1L_1 k (hzo k h)
   have hnb1 : b ≠ b1 := tn1L_1_1 b hzb
   have hnt1 : ∀ k, mtb sN TN k → k ≠ b1 := fun k h => tn1L_1_1 k (hzt k h)
   have hno1 : ∀ k, ob stN k → k ≠ b1 := fun k h => tn1L_1_1 k (hzo k h)
   have hnb2 : b ≠ b2 := tn1L_1_2 b hzb
   have hnt2 : ∀ k, mtb sN TN k → k ≠ b2 := fun k h => tn1L_1_2 k (hzt k h)
   have hno2 : ∀ k, ob stN k → k ≠ b2 := fun k h => tn1L_1_2 k (hzo k h)
   have hst4 : ∀ k, mtb sN TN k → ob so1_4 k → False := fun k h => ts1L_1_4 k (hzt k h)
   have hso4 : ∀ k, ob stN k → ob so1_4 k → False := fun k h => ts1L_1_4 k (hzo k h)
   have hnb_4 : ∀ k, ob so1_4 k → k ≠ b := fun k h e => ts1L_1_4 k (by subst e; exact hzb) h
   have hlbN := hBN.lt
   refine wk_mixK 14 4 BL1_2 (fun kS => match kS with | 1 => .val (.agg #[.slice sN TN.length cN]) | 10 => .sto 4 42 (fun J u w => J.1 < J.2 ∧ Blk w J.1 u.cells.toList 24) | _ => .none) (by kernel_rfl) (by kernel_rfl) (by intro kS G hk; (try dsimp only at hk); (split at hk) <;> first | (cases hk; done) | (injection hk with hk; subst hk; exact ⟨by intro j hkj I v w w' hR hG; first | exact hG, fun _ I v w w' hR hG => by first | exact hG⟩)) (by intro kS s y G hk; (try dsimp only at hk); (split at hk) <;> first | (cases hk; done) | (injection hk with hk1 hk2 hk3; subst hk1; subst hk2; subst hk3; exact ⟨by kernel_rfl, by intro j hkj I v w w' hR hG; exact ⟨hG.1, hG.2.ext hR⟩, fun I v w w' hR hG => ⟨hG.1, hG.2.fr hR (fun h => h.2 ⟨Nat.le_refl _, hG.1⟩)⟩⟩)) ?_
   simp only [List.take_succ_cons, List.take_zero, List.take_nil, List.drop_succ_cons, List.drop_zero, List.drop_nil]
   refine mx_calm rfl (want rfl) (fun u15 eu15 fu15 => mv_pointer (A1.at 9 rfl rfl)) ?_
   refine mx_val rfl (want rfl) (fun u16 eu16 fu16 => do_call (ent_func cf_72 (argsC (t_pointer rfl) args0)) (pout_ct b sN TN.length cN _ stN _ ctN u16 (hBN.fr (mG eu16) (show ¬ (b = b2) by omega))) (fun _ _ E h => ⟨E, h⟩)) ?_
   refine mx_calm rfl (want rfl) (fun u17 eu17 fu17 => mv_slice ho1_4) ?_
   refine mx_calm rfl (want rfl) (fun u18 eu18 fu18 => mv_pointer (A1.at 9 rfl rfl)) ?_
   refine mx_calm rfl (want rfl) (fun u19 eu19 fu19 => rn_nilCheck rfl) ?_
   refine mx_calm rfl (want rfl) (fun u20 eu20 fu20 => rn_fieldAddr fa_113_2 rfl) ?_
   refine mx_calm rfl (want rfl) (fun u21 eu21 fu21 => rn_load1Blk ag_31 rfl (hBN.fr (mG eu21) (show ¬ (b = b2) by omega)) rfl) ?_
   refine mx_calm rfl (want rfl) (fun u22 eu22 fu22 => mv_slice ho1_4) ?_
   refine mx_calm rfl (want rfl) (fun u23 eu23 fu23 => rn_len Tryz.underlying30 rfl) ?_
   refine mx_calm rfl (want rfl) (fun u24 eu24 fu24 => mv_int hs1_8) ?_
   refine mx_sto rfl rfl rfl rfl (want rfl) (fun u25 eu25 fu25 _ => by obtain hB4 := fu25 4 _ rfl (show (4 : Nat) ∈ _ from by decide); exact (do_sto sz_24 (by exact (A1.at 4 rfl rfl)) rfl rfl rfl rfl hB4 rfl ⟨Nat.le_refl _, (Nat.lt_succ_self _)⟩).mono (fun v w' h => ⟨h.1, h.2.1, (Nat.lt_succ_self _), h.2.2⟩)) ?_
   refine mx_calm rfl (want rfl) (fun u26 eu26 fu26 => as_slice rfl) ?_
   refine mx_calm rfl (want rfl) (fun u27 eu27 fu27 => as_slice rfl) ?_
   refine mx_calm rfl (want rfl) (fun u28 eu28 fu28 => as_int rfl) ?_
   refine mx_nil (fun w5 E4' H2 HS => ?_)
   have E4 := mG E4'
   have F14 := F5.set E4 (by omega)
   have hz4 := E4.size
   obtain ⟨_, _, hBK5⟩ := H2 4 _ rfl
   refine lx_value (want rfl) (as_int rfl) ?_
   refine lx_nil ?_
   refine wk_ret ?_
   refine retR5 Tryz.results22 (.cell (A1.at 4 rfl rfl) (run_loadVar_blk ag_24 sz_24 hBK5 rfl rfl)) (.tmp (t_slice rfl)) (.tmp (t_slice rfl)) (.tmp (t_int rfl)) (.tmp (t_int rfl)) F14 ?_
   exact outP_prog hok (by rw [← hpl]; exact playF_end hlt) hTN (hTmN.fr E4 (fun k hk h => hnt2 k hk h)) hgt (own_vl (ow1L_4.ne E4 (fun h => ne1L_4_2 _ h rfl)) ge1L_4) rfl (own_tl (hON.ne E4 (fun h => hno2 _ h rfl)) hgo)

theorem pDraw_ct (m : Mem) (s : Option Addr) (c : Nat) (G : Nat → Prop) (hB : Bm m) (l : List Vl) (sl : Option Addr) (cl : Nat) (H : Nat → Prop) (hll : l.length ≤ 1048576) (w0 : World) (hm : MemS G w0 s m) (hl : VlS H w0 sl l) :
  CT Tryz.prog 30 [.agg #[.slice s m.length c], .slice sl l.length cl] w0 no (fun v w => DrawR w0.heap.size w v (drawR m l)) := by
 have hBl := hB.1
 have F0 := Fr.refl no w0
 refine ct_body Tryz.func30 rfl Tryz.ntmps30 (Nat.le_of_ble_eq_true rfl) ?_
 refine wk_seq ?_
 refine wk_region ?_
 refine lx_new (want rfl) (rn_box (t_agg rfl)) ?_
 intro b1 w1 hb1 Eb1 B1 hlb1
 have F1 := F0.ext Eb1
 have hzb1 := Eb1.size
 refine lx_new (want rfl) (rn_alloc ze_45) ?_
 intro b2 w2 hb2 Eb2 B2 hlb2
 have F2 := F1.ext Eb2
 have hzb2 := Eb2.size
 refine lx_value (want rfl) (as_int rfl) ?_
 refine lx_nil ?_
 refine wk_seq ?_
 refine wk_region ?_
 refine lx_value (want rfl) (rn_loadBlk ag_24 sz_24 rfl (B1.ext Eb2) rfl rfl) ?_
 refine lx_call (want rfl) (ent_func cf_70 (argsC (t_agg rfl) args0)) (CT.mono (open_ct m s c _ hB w2 (hm.fr (st_stab _) F2 (fun _ _ h => h))) (fun _ _ h => h) (fun v w2 _ h => h.all)) ?_
 rintro _ w3 E1 ⟨ad, rfl, hop⟩
 have F3 := F2.ext E1
 have hz1 := E1.size
 refine lx_value (want rfl) (mv_tuple rfl) ?_
 refine lx_value (want rfl) (rn_extract rfl rfl) ?_
 refine lx_value (want rfl) (rn_extract rfl rfl) ?_
 refine lx_new (want rfl) (rn_alloc ze_108) ?_
 intro b3 w4 hb3 Eb3 B3 hlb3
 have F4 := F3.ext Eb3
 have hzb3 := Eb3.size
 refine lx_set (want rfl) sz_108 rfl (t_pointer rfl) rfl rfl rfl B3 (Nat.le_of_ble_eq_true rfl) ?_
 intro w5 Es1 Bs1
 have F5 := F4.set Es1 (by omega)
 have hzs1 := Es1.size
 refine lx_value (want rfl) (as_int rfl) ?_
 refine lx_nil ?_
 refine wk_seq ?_
 refine wk_block ?_
 refine wk_seq ?_
 refine wk_region ?_
 refine lx_value (want rfl) (mv_int rfl) ?_
 refine lx_value (want rfl) (rn_neq rfl rfl) ?_
 refine lx_dec (fun he => ?_) (fun he => ?_)
 ·
  refine lx_value (want rfl) (as_bool rfl) ?_
  refine lx_nil ?_
  refine wk_cond_t rfl ?_
  refine wk_seq ?_
  refine wk_region ?_
  refine lx_value (want rfl) (rn_build0  (fun w => bd_45  w)) ?_
  refine lx_value (want rfl) (mv_int rfl) ?_
  refine lx_set (want rfl) sz_45 rfl (t_agg rfl) rfl rfl rfl (((B2.ext E1).ext Eb3).ne Es1 (by omega)) (Nat.le_of_ble_eq_true rfl) ?_
  intro w6 Es2 Bs2
  have F6 := F5.set Es2 (by omega)
  have hzs2 := Es2.size
  refine lx_value (want rfl) (as_int rfl) ?_
  refine lx_nil ?_
  refine wk_ret ?_
  refine retR2 Tryz.results30 (.cell rfl (run_loadVar_blk ag_45 sz_45 Bs2 rfl rfl)) (.tmp (t_int rfl)) F6 ?_
  exact drawR_chk he
 ·
  obtain ⟨b, Z, rfl, hM, hZ⟩ := hop he
  have hok := chk_0 he
  have hZinc := fun (k : Nat) (hk : zz zn Z k) => (Or.inr (hZ k hk) : zz none (fun _ => False) k ∨ _)
  have hM2 := hM.fr (Fr.trans (Fr.ext (Fr.refl (fun k => k = b3) w3) Eb3) Es1 (fun k _ h => h)) (fun k hk h => by have h1 := hM.lt hk; have h : k = b3 := h; omega)
  have tg2 : ∀ k, zz zn Z k → w0.heap.size ≤ k := fun k hk => (hZinc k hk).elim ((fun _ h => zz_nil h) k) (fun h => by omega)
  have tn2_1 : ∀ k, zz zn Z k → k ≠ b1 := fun k hk => (hZinc k hk).elim ((fun _ h => zz_nil h) k) (fun h => by have := (B1).lt; omega)
  have tn2_2 : ∀ k, zz zn Z k → k ≠ b2 := fun k hk => (hZinc k hk).elim ((fun _ h => zz_nil h) k) (fun h => by have := (B2).lt; omega)
  have hnx3 : ∀ k, zz zn Z k → k ≠ b3 := fun k hk => by have := hM.lt hk; omega
  refine lx_value (want rfl) (as_bool rfl) ?_
  refine lx_nil ?_
  refine wk_cond_f rfl ?_
  refine wk_seq ?_
  refine wk_seq ?_
  refine wk_region ?_
  refine lx_value (want rfl) (mv_slice rfl) ?_
  refine lx_value (want rfl) (rn_len Tryz.underlying30 rfl) ?_
  refine lx_value (want rfl) (rn_gtr rfl rfl) ?_
  refine lx_dec (fun h100 => ?_) (fun h100 => ?_)
  ·
   refine lx_value (want rfl) (as_bool rfl) ?_
   refine lx_nil ?_
   refine wk_cond_t rfl ?_
   refine wk_skip ?_
   refine wk_cond_t rfl ?_
   refine wk_seq ?_
   refine wk_region ?_
   refine lx_value (want rfl) (rn_build0  (fun w => bd_45  w)) ?_
   refine lx_set (want rfl) sz_45 rfl (t_agg rfl) rfl rfl rfl (((B2.ext E1).ext Eb3).ne Es1 (by omega)) (Nat.le_of_ble_eq_true rfl) ?_
   intro w6 Es3 Bs3
   have F7 := F5.set Es3 (by omega)
   have hzs3 := Es3.size
   refine lx_value (want rfl) (as_int rfl) ?_
   refine lx_nil ?_
   refine wk_ret ?_
   refine retR2 Tryz.results30 (.cell rfl (run_loadVar_blk ag_45 sz_45 Bs3 rfl rfl)) (.tmp (t_int rfl)) F7 ?_
   exact drawR_len hok h100
  ·
   refine lx_value (want rfl) (as_bool rfl) ?_
   refine lx_nil ?_
   refine wk_cond_f rfl ?_
   refine wk_region ?_
   refine lx_value (want rfl) (mv_slice rfl) ?_
   refine lx_value (want rfl) (rn_makeFunc (argsC (t_pointer rfl) args0)) ?_
   obtain ⟨sM, cM, TM, stM, ctM, hT, hTl, hBm, hTm, _⟩ := MO.parts hM2
   refine lx_call (want rfl) (ent_func cf_73 (argsC (t_slice rfl) (argsC (t_func rfl) args0))) (containsv_ct l _ _ _ 74 [.pointer (some ⟨b3, 0, none⟩)] (fun v => !isVal v m.length) cf_74 w5 (hl.fr (vl_stab _) F5 (fun _ _ h => h)) hll (fun z w hz E => pdraw1_ct z m.length hBl b3 b sM cM _ stM _ ctM w (Bs1.ext E) ((by rw [← hTl]; exact hBm : Blk _ _ [.slice sM m.length cM, _, _] 113).ext E))) ?_
   rintro _ w6 E2 rfl
   have F8 := F5.ext E2
   have hz2 := E2.size
   refine lx_split (fun hany => ?_) (fun hany => ?_)
   ·
    refine lx_value (want rfl) (as_bool rfl) ?_
    refine lx_nil ?_
    refine wk_cond_t rfl ?_
    refine wk_seq ?_
    refine wk_region ?_
    refine lx_value (want rfl) (rn_build0  (fun w => bd_45  w)) ?_
    refine lx_set (want rfl) sz_45 rfl (t_agg rfl) rfl rfl rfl ((((B2.ext E1).ext Eb3).ne Es1 (by omega)).ext E2) (Nat.le_of_ble_eq_true rfl) ?_
    intro w7 Es4 Bs4
    have F9 := F8.set Es4 (by omega)
    have hzs4 := Es4.size
    refine lx_value (want rfl) (as_int rfl) ?_
    refine lx_nil ?_
    refine wk_ret ?_
    refine retR2 Tryz.results30 (.cell rfl (run_loadVar_blk ag_45 sz_45 Bs4 rfl rfl)) (.tmp (t_int rfl)) F9 ?_
    exact drawR_val hok (any_all' hany)
   ·
    refine lx_value (want rfl) (as_bool rfl) ?_
    refine lx_nil ?_
    refine wk_cond_f rfl ?_
    refine wk_skip ?_
    refine wk_seq ?_
    refine wk_region ?_
    refine lx_value (want rfl) (rn_load1Blk ag_108 rfl (Bs1.ext E2) rfl) ?_
    refine lx_value (want rfl) (mv_slice rfl) ?_
    obtain ⟨sN, cN, TN, stN, ctN, hTN, _, hBN, hTmN, _⟩ := MO.parts (hM2.ext E2)
    refine lx_call (want rfl) (ent_func cf_76 (argsC (t_pointer rfl) (argsC (t_slice rfl) args0))) (pdraw_ct m hok b sN cN TN _ stN _ ctN l sl cl H hll (any_all hany) w6 hBN hTN hTmN (hl.fr (vl_stab _) F8 (fun _ _ h => h))) ?_
    rintro _ w7 E3 ⟨sP, cP, sQ, cQ, rfl, hPV, hPC⟩
    have F10 := F8.ext E3
    have hz3 := E3.size
    have hPR : PicR _ _ _ (drawP (cellsOfM m) l) := ⟨sP, cP, sQ, cQ, rfl, hPV, hPC⟩
    refine lx_set (want rfl) sz_45 rfl (t_agg rfl) rfl rfl rfl (((((B2.ext E1).ext Eb3).ne Es1 (by omega)).ext E2).ext E3) (Nat.le_of_ble_eq_true rfl) ?_
    intro w8 Es5 Bs5
    have F11 := F10.set Es5 (by omega)
    have hzs5 := Es5.size
    refine lx_value (want rfl) (as_int rfl) ?_
    refine lx_nil ?_
    refine wk_ret ?_
    refine retR2 Tryz.results30 (.cell rfl (run_loadVar_blk ag_45 sz_45 Bs5 rfl rfl)) (.tmp (t_int rfl)) F11 ?_
    exact drawR_ok hok h100 (any_all hany) ((hPR.fr (Fr.trans (Fr.refl (fun k => k = b2) w7) Es5 (fun k _ h => h)) (fun k h1 h2 h => by have h : k = b2 := h; omega)).mono (by omega))

set_option maxHeartbeats 2000000 in
theorem rShow_ct (p : Pic) (sv : Option Addr) (cv : Nat) (sk : Option Addr) (ck : Nat) (G : Nat → Prop) (hB : Bp p) (dp : Int) (w0 : World) (hv : VlS G w0 sv p.1) (hk : VvS G w0 sk p.2) :
  CT Tryz.prog 52 [.agg #[.slice sv p.1.length cv, .slice sk p.2.length ck], .int .i64 dp] w0 no (fun v _ => v = showV (showR p dp)) := by
 have hB1 := hB.1
 have hB2 := hB.2.1
 have F0 := Fr.refl no w0
 refine ct_body Tryz.func52 rfl Tryz.ntmps52 (Nat.le_of_ble_eq_true rfl) ?_
 refine wk_seq ?_
 refine wk_region ?_
 refine lx_new (want rfl) (rn_box (t_agg rfl)) ?_
 intro b1 w1 hb1 Eb1 B1 hlb1
 have F1 := F0.ext Eb1
 have hzb1 := Eb1.size
 refine lx_value (want rfl) (as_string rfl) ?_
 refine lx_value (want rfl) (as_int rfl) ?_
 refine lx_nil ?_
 refine wk_seq ?_
 refine wk_seq ?_
 refine wk_region ?_
 refine lx_value (want rfl) (rn_loadBlk ag_45 sz_45 rfl B1 rfl rfl) ?_
 refine lx_call (want rfl) (ent_func cf_34 (argsC (t_agg rfl) args0)) (refispic_ct p _ _ _ _ _ hB w1 (hv.fr (vl_stab _) F1 (fun _ _ h => h)) (hk.fr (vv_stab _) F1 (fun _ _ h => h))) ?_
 rintro _ w2 E1 rfl
 have F2 := F1.ext E1
 have hz1 := E1.size
 refine lx_split (fun hp => ?_) (fun hp => ?_)
 ·
  have hpv := pic_vals hp
  have hpA : ∀ l ∈ p.2, l.length ≤ 1048576 ∧ ∀ v ∈ l, isVal v p.2.length = true := fun l hl => ⟨by have := (isPic_cells hp hl).1; omega, hpv.2 l hl⟩
  refine lx_value (want rfl) (rn_not rfl) ?_
  refine lx_nil ?_
  refine wk_cond_f rfl ?_
  refine wk_skip ?_
  refine wk_seq ?_
  refine wk_seq ?_
  refine wk_region ?_
  refine lx_value (want rfl) (mv_int rfl) ?_
  refine lx_call (want rfl) (ent_func cf_65 (argsC (t_int rfl) (argsC (t_int rfl) (argsC (t_int rfl) args0)))) (in_ct _ _ _ w2) ?_
  rintro _ w3 E2 rfl
  have F3 := F2.ext E2
  have hz2 := E2.size
  refine lx_split (fun hd => ?_) (fun hd => ?_)
  ·
   replace hd := of_decide_eq_true hd
   obtain ⟨dn, rfl⟩ : ∃ n : Nat, dp = n := ⟨dp.toNat, by omega⟩
   refine lx_value (want rfl) (rn_not rfl) ?_
   refine lx_nil ?_
   refine wk_cond_f rfl ?_
   refine wk_skip ?_
   refine wk_seq ?_
   refine wk_region ?_
   refine lx_value (want rfl) (rn_loadBlk ag_45 sz_45 rfl ((B1.ext E1).ext E2) rfl rfl) ?_
   refine lx_value (want rfl) (rn_fieldAddr fa_45_0 rfl) ?_
   refine lx_value (want rfl) (rn_load1Blk ag_30 rfl ((B1.ext E1).ext E2) rfl) ?_
   refine lx_value (want rfl) (mv_int rfl) ?_
   refine lx_call (want rfl) (ent_func cf_98 (argsC (t_agg rfl) (argsC (t_slice rfl) (argsC (t_int rfl) args0)))) ((textsAll_ct hpA dn (by omega)).2 p.1 sv cv G w3 hpv.1 hB1 (hv.fr (vl_stab _) F3 (fun _ _ h => h)) (hk.fr (vv_stab _) F3 (fun _ _ h => h))) ?_
   rintro _ w4 E3 ⟨bs2, rfl, hq2⟩
   have F4 := F3.ext E3
   have hz3 := E3.size
   refine lx_value (want rfl) (as_string rfl) ?_
   refine lx_nil ?_
   refine wk_seq ?_
   refine wk_seq ?_
   refine wk_region ?_
   refine lx_value (want rfl) (mv_string rfl) ?_
   refine lx_value (want rfl) (rn_lenS Tryz.underlying9 rfl) ?_
   refine lx_value (want rfl) (rn_gtr rfl rfl) ?_
   refine lx_dec (fun hf => ?_) (fun hf => ?_)
   ·
    refine lx_nil ?_
    refine wk_cond_t rfl ?_
    refine wk_seq ?_
    refine wk_region ?_
    refine lx_value (want rfl) (as_string rfl) ?_
    refine lx_value (want rfl) (as_int rfl) ?_
    refine lx_nil ?_
    refine wk_ret ?_
    refine retR2 Tryz.results52 (.tmp (t_string rfl)) (.tmp (t_int rfl)) F4 ?_
    first | exact showS_5 hp hd hq2 hf | exact showS_0 hp hd hq2 hf | exact showR_3 hp hd | exact showR_4 (by rw [hp]; decide)
   ·
    refine lx_nil ?_
    refine wk_cond_f rfl ?_
    refine wk_skip ?_
    refine wk_seq ?_
    refine wk_region ?_
    refine lx_value (want rfl) (mv_string rfl) ?_
    refine lx_value (want rfl) (as_string rfl) ?_
    refine lx_value (want rfl) (as_int rfl) ?_
    refine lx_nil ?_
    refine wk_ret ?_
    refine retR2 Tryz.results52 (.tmp (t_string rfl)) (.tmp (t_int rfl)) F4 ?_
    first | exact showS_5 hp hd hq2 hf | exact showS_0 hp hd hq2 hf | exact showR_3 hp hd | exact showR_4 (by rw [hp]; decide)
  ·
   replace hd := of_decide_eq_false hd
   refine lx_value (want rfl) (rn_not rfl) ?_
   refine lx_nil ?_
   refine wk_cond_t rfl ?_
   refine wk_seq ?_
   refine wk_region ?_
   refine lx_value (want rfl) (as_string rfl) ?_
   refine lx_value (want rfl) (as_int rfl) ?_
   refine lx_nil ?_
   refine wk_ret ?_
   refine retR2 Tryz.results52 (.tmp (t_string rfl)) (.tmp (t_int rfl)) F3 ?_
   first | exact showS_5 hp hd hq2 hf | exact showS_0 hp hd hq2 hf | exact showR_3 hp hd | exact showR_4 (by rw [hp]; decide)
 ·
  refine lx_value (want rfl) (rn_not rfl) ?_
  refine lx_nil ?_
  refine wk_cond_t rfl ?_
  refine wk_seq ?_
  refine wk_region ?_
  refine lx_value (want rfl) (as_string rfl) ?_
  refine lx_value (want rfl) (as_int rfl) ?_
  refine lx_nil ?_
  refine wk_ret ?_
  refine retR2 Tryz.results52 (.tmp (t_string rfl)) (.tmp (t_int rfl)) F2 ?_
  first | exact showS_5 hp hd hq2 hf | exact showS_0 hp hd hq2 hf | exact showR_3 hp hd | exact showR_4 (by rw [hp]; decide)

end Go.Proofs.YtnhgfmbmfjmonaaGreatDoor

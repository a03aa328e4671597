/- What functions compute: pStream, pshow. -/
import Derived.Test.YtnhgfmbmfjmonaaGreatDoorNamesFacts
import Derived.Test.YtnhgfmbmfjmonaaGreatDoorNamesPre
import Derived.Test.YtnhgfmbmfjmonaaGreatDoorNamesWalk10
import Derived.Test.YtnhgfmbmfjmonaaGreatDoorNamesWalk14
import Derived.Test.YtnhgfmbmfjmonaaGreatDoorNamesWalk2
import Derived.Test.YtnhgfmbmfjmonaaGreatDoorNamesWalk5
set_option maxRecDepth 100000
set_option linter.unusedVariables false
set_option linter.unusedSimpArgs false
namespace Go.Proofs.YtnhgfmbmfjmonaaGreatDoor
open Go Go.RowKit Go.Mix Go.Eng
set_option maxHeartbeats 2000000 in
set_option maxRecDepth 100000 in
theorem pStream_ct (p : Pic) (sv : Option Addr) (cv : Nat) (sk : Option Addr) (ck : Nat) (G : Nat → Prop) (hB : Bp p) (z : Int) (w0 : World) (hv : VlS G w0 sv p.1) (hk : VvS G w0 sk p.2) :
  CT Tryz.prog 49 [.agg #[.slice sv p.1.length cv, .slice sk p.2.length ck], .int .i64 z] w0 no (fun v w => OutZ w0.heap.size w v (strR p z)) := by
 have hB1 := hB.1
 have hB2 := hB.2.1
 have hv2 := vl_lt hv
 have hk2 := vv_lt hk
 have F0 := Fr.refl no w0
 refine ct_body Tryz.func49 rfl Tryz.ntmps49 (Nat.le_of_ble_eq_true rfl) ?_
 refine wk_seq ?_
 refine wk_region ?_
 refine lx_new (want rfl) (rn_box (t_agg rfl)) ?_
 intro b1 w1 hb1 Eb1 B1 hlb1
 have F1 := F0.ext Eb1
 have hzb1 := Eb1.size
 refine lx_value (want rfl) (as_slice rfl) ?_
 refine lx_new (want rfl) (rn_alloc ze_36) ?_
 intro b2 w2 hb2 Eb2 B2 hlb2
 have F2 := F1.ext Eb2
 have hzb2 := Eb2.size
 refine lx_value (want rfl) (as_int rfl) ?_
 refine lx_nil ?_
 refine wk_seq ?_
 refine wk_block ?_
 refine wk_seq ?_
 refine wk_region ?_
 refine lx_value (want rfl) (rn_loadBlk ag_45 sz_45 rfl (B1.ext Eb2) rfl rfl) ?_
 refine lx_call (want rfl) (ent_func cf_33 (argsC (t_agg rfl) args0)) (pispic_ct p _ _ _ _ _ hB w2 (hv.fr (vl_stab _) F2 (fun _ _ h => h)) (hk.fr (vv_stab _) F2 (fun _ _ h => h))) ?_
 rintro _ w3 E1 rfl
 have F3 := F2.ext E1
 have hz1 := E1.size
 refine lx_split (fun hp => ?_) (fun hp => ?_)
 ·
  have hpv := pic_vals hp
  refine lx_value (want rfl) (rn_not rfl) ?_
  refine lx_value (want rfl) (as_bool rfl) ?_
  refine lx_nil ?_
  refine wk_cond_f rfl ?_
  refine wk_seq ?_
  refine wk_region ?_
  refine lx_value (want rfl) (mv_int rfl) ?_
  refine lx_value (want rfl) (rn_fieldAddr fa_45_0 rfl) ?_
  refine lx_value (want rfl) (rn_load1Blk ag_30 rfl ((B1.ext Eb2).ext E1) rfl) ?_
  refine lx_value (want rfl) (rn_len Tryz.underlying30 rfl) ?_
  refine lx_value (want rfl) (rn_sub rfl rfl (by omega)) ?_
  refine lx_call (want rfl) (ent_func cf_94 (argsC (t_int rfl) (argsC (t_int rfl) (argsC (t_int rfl) args0)))) (within_ct _ _ _ w3) ?_
  rintro _ w4 E2 rfl
  have F4 := F3.ext E2
  have hz2 := E2.size
  refine lx_split (fun hin => ?_) (fun hin => ?_)
  ·
   replace hin := of_decide_eq_true hin
   obtain ⟨n, rfl⟩ : ∃ n : Nat, z = n := ⟨z.toNat, by omega⟩
   obtain ⟨v0, hv0⟩ : ∃ u, p.1[n]? = some u := ⟨_, List.getElem?_eq_getElem (by omega)⟩
   obtain ⟨b0, o0, rfl, _, hc0⟩ := hv2 n v0 hv0
   refine lx_value (want rfl) (rn_not rfl) ?_
   refine lx_value (want rfl) (as_bool rfl) ?_
   refine lx_nil ?_
   refine wk_cond_f rfl ?_
   refine wk_skip ?_
   refine wk_seq ?_
   refine wk_region ?_
   refine lx_value (want rfl) (rn_fieldAddr fa_45_0 rfl) ?_
   refine lx_value (want rfl) (rn_load1Blk ag_30 rfl (((B1.ext Eb2).ext E1).ext E2) rfl) ?_
   refine lx_value (want rfl) (mv_int rfl) ?_
   refine lx_value (want rfl) (rn_index n Tryz.underlying30 sz_36 rfl rfl rfl (by omega)) ?_
   refine lx_value (want rfl) (rn_load2 ag_36 sz_36 rfl (F4.cell (fun h => h) (hc0 0 _ rfl)) (F4.cell (fun h => h) (hc0 1 _ rfl))) ?_
   refine lx_set (want rfl) sz_36 rfl (t_agg rfl) rfl rfl rfl ((B2.ext E1).ext E2) (Nat.le_of_ble_eq_true rfl) ?_
   intro w5 Es1 Bs1
   have F5 := F4.set Es1 (by omega)
   have hzs1 := Es1.size
   refine lx_nil ?_
   refine wk_seq ?_
   refine wk_block ?_
   refine wk_loopA [4, 7, 27, 28, 29, 30, 31, 32, 33, 34, 35, 36, 37, 38, 39, 40, 41, 42, 43, 44, 45, 46, 47, 48, 49, 50, 51, 52, 53, 54, 55, 56, 57, 58, 59, 60, 61, 62, 63, 64, 65, 66, 67, 68, 69, 70, 71, 72] (fun j => no j ∨ w0.heap.size ≤ j) (fun nM ρ w => ∃ (L : List Int) (vq : Vl) (so1_4 : Option Addr) (co1_4 : Nat), nM = 400 - L.length ∧ Blk w b1 (cellsOf B1) 45 ∧ Blk w b2 [.int .u8 vq.1, .int .i64 vq.2] 36 ∧ ρ 4 = .slice so1_4 (L.length) co1_4 ∧ OwnS w 3 1 so1_4 (L.length) co1_4 (L.flatMap intC) ∧ (∀ k, ob so1_4 k → w0.heap.size ≤ k) ∧ (∀ k, ob so1_4 k → k ≠ b1) ∧ (∀ k, ob so1_4 k → k ≠ b2) ∧ (L.length ≤ 400) ∧ (StQ p.2 v0 L vq) ∧ (isVal vq p.2.length = true)) _ ⟨[], v0, none, 0, rfl, ((((B1.ext Eb2).ext E1).ext E2).ne Es1 (by omega)), Bs1, rfl, (((((OwnS.nil w1 3 1).ext Eb2).ext E1).ext E2).ne Es1 (fun h => (ob_none h : False))), (fun _ h => ob_none h), (fun _ h => ob_none h), (fun _ h => ob_none h), Nat.zero_le _, stq_0 _ _, hpv.1 v0 (List.mem_of_getElem? hv0)⟩ ?_
   rintro n1 ρ1 w6 A1 EL1 ⟨L, vq, so1_4, co1_4, rfl, BL1_1, BL1_2, ho1_4, ow1L_4, ge1L_4, ne1L_4_1, ne1L_4_2, hLl, hq, hvq⟩
   have F6 := F5.wide EL1
   have hzL1 := EL1.size
   refine wk_seq ?_
   refine wk_seq ?_
   refine wk_region ?_
   refine lx_value (want rfl) (mv_slice ho1_4) ?_
   refine lx_value (want rfl) (rn_len Tryz.underlying77 rfl) ?_
   refine lx_value (want rfl) (rn_lss rfl rfl) ?_
   refine lx_dec (fun hl => ?_) (fun hl => ?_)
   ·
    refine lx_value (want rfl) (mv_bool rfl) ?_
    refine lx_value (want_if (j := 3) (d := 30) (x := true) (y := true) rfl rfl (by decide) rfl) (rn_fieldAddr fa_36_0 (A1.at 5 rfl rfl)) ?_
    refine lx_value (want_if (j := 3) (d := 30) (x := true) (y := true) rfl rfl (by decide) rfl) (rn_load1Blk ag_5 rfl BL1_2 rfl) ?_
    refine lx_value (want_if (j := 3) (d := 30) (x := true) (y := true) rfl rfl (by decide) rfl) (rn_eql rfl rfl) ?_
    refine lx_dec (fun h4 => ?_) (fun h4 => ?_)
    ·
     have hvr := isVal_ref hvq h4
     obtain ⟨y, hy⟩ : ∃ y, p.2[num vq]? = some y := ⟨_, List.getElem?_eq_getElem hvr.2⟩
     have hyv := hpv.2 y (List.mem_of_getElem? hy)
     obtain ⟨by_, oy, rfl, _, sy, cy, hcy, hpy⟩ := hk2 _ y hy
     refine lx_value (want rfl) (pick_t rfl rfl) ?_
     refine lx_value (want rfl) (mv_bool rfl) ?_
     refine lx_value (want_if (j := 8) (d := 35) (x := true) (y := true) rfl rfl (by decide) rfl) (rn_fieldAddr fa_45_1 (A1.at 2 rfl rfl)) ?_
     refine lx_value (want_if (j := 8) (d := 35) (x := true) (y := true) rfl rfl (by decide) rfl) (rn_load1Blk ag_43 rfl BL1_1 rfl) ?_
     refine lx_value (want_if (j := 8) (d := 35) (x := true) (y := true) rfl rfl (by decide) rfl) (rn_fieldAddr fa_36_1 (A1.at 5 rfl rfl)) ?_
     refine lx_value (want_if (j := 8) (d := 35) (x := true) (y := true) rfl rfl (by decide) rfl) (rn_load1Blk ag_3 rfl BL1_2 rfl) ?_
     refine lx_value (want_if (j := 8) (d := 35) (x := true) (y := true) rfl rfl (by decide) rfl) (rn_index (num vq) Tryz.underlying43 sz_30 rfl rfl (num_eq hvr.1).symm hvr.2) ?_
     refine lx_value (want_if (j := 8) (d := 35) (x := true) (y := true) rfl rfl (by decide) rfl) (rn_load1 ag_30 rfl (F6.cell (fun h => h) hcy)) ?_
     refine lx_value (want_if (j := 8) (d := 35) (x := true) (y := true) rfl rfl (by decide) rfl) (rn_len Tryz.underlying30 rfl) ?_
     refine lx_value (want_if (j := 8) (d := 35) (x := true) (y := true) rfl rfl (by decide) rfl) (rn_eql rfl rfl) ?_
     refine lx_dec (fun h2 => ?_) (fun h2 => ?_)
     ·
      obtain ⟨a, b, rfl⟩ := two_of h2
      obtain ⟨ba, oa, rfl, hGa, hca⟩ := hpy 0 a rfl
      obtain ⟨b9, o9, e9, _, hcb⟩ := hpy 1 b rfl
      obtain ⟨rfl, rfl⟩ : ba = b9 ∧ oa = o9 := by injection e9 with e; injection e with e1 e2; exact ⟨e1, e2⟩
      refine lx_value (want rfl) (pick_t rfl rfl) ?_
      refine lx_value (want rfl) (mv_bool rfl) ?_
      refine lx_value (want_if (j := 18) (d := 45) (x := true) (y := true) rfl rfl (by decide) rfl) (rn_fieldAddr fa_45_1 (A1.at 2 rfl rfl)) ?_
      refine lx_value (want_if (j := 18) (d := 45) (x := true) (y := true) rfl rfl (by decide) rfl) (rn_load1Blk ag_43 rfl BL1_1 rfl) ?_
      refine lx_value (want_if (j := 18) (d := 45) (x := true) (y := true) rfl rfl (by decide) rfl) (rn_fieldAddr fa_36_1 (A1.at 5 rfl rfl)) ?_
      refine lx_value (want_if (j := 18) (d := 45) (x := true) (y := true) rfl rfl (by decide) rfl) (rn_load1Blk ag_3 rfl BL1_2 rfl) ?_
      refine lx_value (want_if (j := 18) (d := 45) (x := true) (y := true) rfl rfl (by decide) rfl) (rn_index (num vq) Tryz.underlying43 sz_30 rfl rfl (num_eq hvr.1).symm hvr.2) ?_
      refine lx_value (want_if (j := 18) (d := 45) (x := true) (y := true) rfl rfl (by decide) rfl) (rn_load1 ag_30 rfl (F6.cell (fun h => h) hcy)) ?_
      refine lx_value (want_if (j := 18) (d := 45) (x := true) (y := true) rfl rfl (by decide) rfl) (rn_index 0 Tryz.underlying30 sz_36 rfl rfl rfl (show 0 < 2 by decide)) ?_
      refine lx_value (want_if (j := 18) (d := 45) (x := true) (y := true) rfl rfl (by decide) rfl) (rn_fieldAddr fa_36_0 rfl) ?_
      refine lx_value (want_if (j := 18) (d := 45) (x := true) (y := true) rfl rfl (by decide) rfl) (rn_load1 ag_5 rfl (F6.cell (fun h => h) (hca 0 _ rfl))) ?_
      refine lx_value (want_if (j := 18) (d := 45) (x := true) (y := true) rfl rfl (by decide) rfl) (rn_eql rfl rfl) ?_
      refine lx_dec (fun h1 => ?_) (fun h1 => ?_)
      ·
       have hlen1 : (L ++ [a.2]).length = L.length + 1 := by simp
       refine lx_value (want rfl) (pick_t rfl rfl) ?_
       refine lx_nil ?_
       refine wk_cond_t rfl ?_
       refine wk_skip ?_
       refine wk_block ?_
       refine wk_seq ?_
       refine wk_region ?_
       refine lx_value (want rfl) (rn_fieldAddr fa_45_1 (A1.at 2 rfl rfl)) ?_
       refine lx_value (want rfl) (rn_load1Blk ag_43 rfl BL1_1 rfl) ?_
       refine lx_value (want rfl) (rn_fieldAddr fa_36_1 (A1.at 5 rfl rfl)) ?_
       refine lx_value (want rfl) (rn_load1Blk ag_3 rfl BL1_2 rfl) ?_
       refine lx_value (want rfl) (rn_index (num vq) Tryz.underlying43 sz_30 rfl rfl (num_eq hvr.1).symm hvr.2) ?_
       refine lx_value (want rfl) (rn_load1 ag_30 rfl (F6.cell (fun h => h) hcy)) ?_
       refine lx_value (want rfl) (as_slice rfl) ?_
       refine lx_nil ?_
       have hge4 := ge1L_4
       have ca1 := F6.cell (p := ⟨ba, _, none⟩) (fun h => h) (hca 1 _ rfl)
       have cb0 := F6.cell (p := ⟨ba, _, none⟩) (fun h => h) (hcb 0 _ rfl)
       have cb1 := F6.cell (p := ⟨ba, _, none⟩) (fun h => h) (hcb 1 _ rfl)
       have hOw := ow1L_4
       have hSl : ∀ k, (ob so1_4) k → k < w6.heap.size := fun k h => (ow1L_4).lt h
       refine wk_mixA 11 6 (ob so1_4) (fun kS => match kS with | 5 => .any (fun I v w => ∃ b, v = .slice (some ⟨b, 0, none⟩) 1 1 ∧ w6.heap.size ≤ b ∧ (I.1 ≤ b ∧ b < I.2) ∧ Blk w b [.int .i64 a.2] 3) | 6 => .any (fun I v w => ∃ s c, v = .slice s (L.length + 1) c ∧ OwnS w 3 1 s (L.length + 1) c ((L.flatMap intC) ++ [.int .i64 a.2]) ∧ ∀ k, ob s k → (ob so1_4 k ∨ w6.heap.size ≤ k)) | _ => .none) (by kernel_rfl) (by kernel_rfl) (by intro kS G hk; (try dsimp only at hk); (split at hk) <;> first | (cases hk; done) | (injection hk with hk; subst hk; exact ⟨by intro j hkj I v w w' hR hG; first | exact hG | (obtain ⟨b, h1, h2, hI, h3⟩ := hG; exact ⟨b, h1, h2, hI, h3.fr (mS hR) (fun hs => by have := hOw.lt hs; omega)⟩) | (obtain ⟨s, c, h1, h2, h3⟩ := hG; exact ⟨s, c, h1, h2.ext (mT hkj hR), h3⟩), fun ⟨_, _, _, _, hs⟩ => by (try dsimp only at hs); split at hs <;> cases hs⟩)) (by intro kS s y G hk; (try dsimp only at hk); split at hk <;> cases hk) ?_
       simp only [List.take_succ_cons, List.take_zero, List.take_nil, List.drop_succ_cons, List.drop_zero, List.drop_nil]
       refine mx_calm rfl (want rfl) (fun u1 eu1 fu1 => mv_slice ho1_4) ?_
       refine mx_calm rfl (want rfl) (fun u2 eu2 fu2 => mv_slice rfl) ?_
       refine mx_calm rfl (want rfl) (fun u3 eu3 fu3 => rn_index 0 Tryz.underlying30 sz_36 rfl rfl rfl (show 0 < 2 by decide)) ?_
       refine mx_calm rfl (want rfl) (fun u4 eu4 fu4 => rn_fieldAddr fa_36_1 rfl) ?_
       refine mx_calm rfl (want rfl) (fun u5 eu5 fu5 => rn_load1 ag_3 rfl ((mD (by decide) eu5).cell (fun h => by have h1 := hge4 _ h; (try dsimp only at h1); have h2 := hGa.2; omega) ca1)) ?_
       refine mx_any rfl rfl (want rfl) (fun u6 eu6 fu6 => (do_newS2 (rn_bslice (xs := [.tmp 67]) Tryz.underlying77 sz_3 ze_3 rfl (argsC (t_int rfl) args0) (CL.cons rfl rfl CL.nil) rfl (Nat.le_of_ble_eq_true rfl)) (show _ ≤ _ from ((mD (by decide) eu6)).size)).mono (fun v w' h => ⟨(mE (by decide) h.1), h.2⟩)) (fun I68 v68 => ?_)
       refine mx_any rfl rfl (want rfl) (fun u7 eu7 fu7 => by obtain ⟨bS, rfl, hbS, _, hBS⟩ := fu7 68 _ rfl (show (68 : Nat) ∈ _ from by decide); exact do_append 8 Tryz.underlying77 ti_3 (by decide) rfl (by decide) rfl rfl (ow1L_4.ext (mC eu7)) (Src.blk hBS rfl rfl) (by omega) (fun sA cA wA AP => ⟨(mF AP.fr), ⟨sA, cA, rfl, AP.own, fun k hk => (AP.blk k hk).elim .inl (fun h => .inr (Nat.le_trans (mC eu7).size h))⟩⟩)) (fun I69 v69 => ?_)
       refine mx_calm rfl (want rfl) (fun u8 eu8 fu8 => mv_slice rfl) ?_
       refine mx_calm rfl (want rfl) (fun u9 eu9 fu9 => rn_index 1 Tryz.underlying30 sz_36 rfl rfl rfl (show 1 < 2 by decide)) ?_
       refine mx_calm rfl (want rfl) (fun u10 eu10 fu10 => rn_load2 ag_36 sz_36 rfl ((mD (by decide) eu10).cell (fun h => by have h1 := hge4 _ h; (try dsimp only at h1); have h2 := hGa.2; omega) cb0) ((mD (by decide) eu10).cell (fun h => by have h1 := hge4 _ h; (try dsimp only at h1); have h2 := hGa.2; omega) cb1)) ?_
       refine mx_calm (v := .slice (sad v69) (L.length + 1) (scp v69)) rfl (want rfl) (fun u11 eu11 fu11 => by obtain ⟨s9, c9, rfl, _, _⟩ := fu11 69 _ rfl (show (69 : Nat) ∈ _ from by decide); exact as_slice rfl) ?_
       refine mx_nil (fun w7 E3' H1 HS => ?_)
       have E3 := mG E3'
       have hI69 := (HS.1 69 _ rfl).2
       have hI68 := (HS.1 68 _ rfl).2
       have hX69_68 := HS.2 69 _ 68 _ rfl rfl (show (69 : Nat) ≠ 68 from by decide)
       simp only at hI69
       simp only at hI68
       simp only at hX69_68
       have g69 := H1 69 _ rfl
       obtain ⟨sq2, cq2, rfl, hO2, hI2⟩ := g69
       have g68 := H1 68 _ rfl
       have AP2 : Apd w6 _ _ so1_4 _ _ sq2 cq2 w7 := ⟨hO2, E3, hI2⟩
       have EA2 := AP2.fr
       have ow2 := AP2.own
       have ge2 : ∀ k, ob sq2 k → w0.heap.size ≤ k := fun k hk => (AP2.blk k hk).elim (ge1L_4 k) (fun h => (Nat.le_trans F6.size h))
       have ne2_1 : ∀ k, ob sq2 k → k ≠ b1 := fun k hk => (AP2.blk k hk).elim (ne1L_4_1 k) (fun h => by have := (BL1_1).lt; omega)
       have ne2_2 : ∀ k, ob sq2 k → k ≠ b2 := fun k hk => (AP2.blk k hk).elim (ne1L_4_2 k) (fun h => by have := (BL1_2).lt; omega)
       have F7 := F6.new EA2 ge1L_4
       have hzA2 := EA2.size
       have BA2_1 := BL1_1.fr EA2 (fun h => ne1L_4_1 _ h rfl)
       have BA2_2 := BL1_2.fr EA2 (fun h => ne1L_4_2 _ h rfl)
       refine lx_set (want rfl) sz_36 (A1.at 5 rfl rfl) (t_agg rfl) rfl rfl rfl BA2_2 (Nat.le_of_ble_eq_true rfl) ?_
       intro w8 Es2 Bs2
       have F8 := F7.set Es2 (by omega)
       have hzs2 := Es2.size
       refine lx_nil ?_
       exact ⟨rfl, (((((((((((((((((((((((((((((((((((((((((((((((((A1.up rfl _).up rfl _).up rfl _).up rfl _).up rfl _).up rfl _).up rfl _).up rfl _).up rfl _).up rfl _).up rfl _).up rfl _).up rfl _).up rfl _).up rfl _).up rfl _).up rfl _).up rfl _).up rfl _).up rfl _).up rfl _).up rfl _).up rfl _).up rfl _).up rfl _).up rfl _).up rfl _).up rfl _).up rfl _).up rfl _).up rfl _).up rfl _).up rfl _).up rfl _).up rfl _).up rfl _).up rfl _).up rfl _).up rfl _).up rfl _).up rfl _).up rfl _).up rfl _).up rfl _).up rfl _).up rfl _).up rfl _).up rfl _).none _), Fr.between F5 F8 (by omega), _, (by omega), L ++ [a.2], b, sq2, cq2, rfl, (BA2_1.ne Es2 (by omega)), Bs2, (slot_app rfl), (own_more (ow2.ne Es2 (fun h => ne2_2 _ h rfl)) rfl), ge2, ne2_1, ne2_2, (by omega), (stq_on hq (by omega) h4 hy h1), (hyv b (by simp))⟩
      ·
       have hend := stq_one hq hy h1
       refine lx_value (want rfl) (pick_t rfl rfl) ?_
       refine lx_nil ?_
       refine wk_cond_f rfl ?_
       refine wk_exit ?_
       refine wk_seq ?_
       refine wk_mix 3 (fun _ => .none) (by kernel_rfl) (by kernel_rfl) (fun kS G hk => by cases hk) (fun kS s y G hk => by cases hk) ?_
       simp only [List.take_succ_cons, List.take_zero, List.take_nil, List.drop_succ_cons, List.drop_zero, List.drop_nil]
       refine mx_calm rfl (want rfl) (fun u12 eu12 fu12 => mv_slice ho1_4) ?_
       refine mx_calm rfl (want rfl) (fun u13 eu13 fu13 => rn_loadBlk ag_36 sz_36 (A1.at 5 rfl rfl) (BL1_2.ext ((ext_drawn _).trans' eu13)) rfl rfl) ?_
       refine mx_calm rfl (want rfl) (fun u14 eu14 fu14 => as_slice rfl) ?_
       refine mx_nil (fun w7 E4' H2 HS => ?_)
       have E4 := (ext_drawn _).trans' E4'
       have F9 := F6.ext E4
       have hz4 := E4.size
       refine lx_set (want rfl) sz_36 (A1.at 5 rfl rfl) (t_agg rfl) rfl rfl rfl (BL1_2.ext E4) (Nat.le_of_ble_eq_true rfl) ?_
       intro w8 Es3 Bs3
       have F10 := F9.set Es3 (by omega)
       have hzs3 := Es3.size
       refine lx_value (want rfl) (as_int rfl) ?_
       refine lx_nil ?_
       refine wk_ret ?_
       refine retR3 Tryz.results49 (.tmp (t_slice rfl)) (.cell (A1.at 5 rfl rfl) (run_loadVar_blk ag_36 sz_36 Bs3 rfl rfl)) (.tmp (t_int rfl)) F10 ?_
       first | exact outZ_0 hp hv0 hend (own_ints ((ow1L_4.ext E4).ne Es3 (fun h => ne1L_4_2 _ h rfl)) ge1L_4) | exact outZ_3 hp hin | exact outZ_4 (by rw [hp]; decide)
     ·
      have hend := stq_two hq hy (by omega)
      refine lx_value (want rfl) (pick_t rfl rfl) ?_
      refine lx_value (want rfl) (mv_bool rfl) ?_
      refine lx_skip (want_if (j := 18) (d := 45) (x := true) (y := false) rfl rfl (by decide) rfl) ?_
      refine lx_skip (want_if (j := 18) (d := 45) (x := true) (y := false) rfl rfl (by decide) rfl) ?_
      refine lx_skip (want_if (j := 18) (d := 45) (x := true) (y := false) rfl rfl (by decide) rfl) ?_
      refine lx_skip (want_if (j := 18) (d := 45) (x := true) (y := false) rfl rfl (by decide) rfl) ?_
      refine lx_skip (want_if (j := 18) (d := 45) (x := true) (y := false) rfl rfl (by decide) rfl) ?_
      refine lx_skip (want_if (j := 18) (d := 45) (x := true) (y := false) rfl rfl (by decide) rfl) ?_
      refine lx_skip (want_if (j := 18) (d := 45) (x := true) (y := false) rfl rfl (by decide) rfl) ?_
      refine lx_skip (want_if (j := 18) (d := 45) (x := true) (y := false) rfl rfl (by decide) rfl) ?_
      refine lx_skip (want_if (j := 18) (d := 45) (x := true) (y := false) rfl rfl (by decide) rfl) ?_
      refine lx_skip (want_if (j := 18) (d := 45) (x := true) (y := false) rfl rfl (by decide) rfl) ?_
      refine lx_value (want rfl) (pick_f rfl rfl) ?_
      refine lx_nil ?_
      refine wk_cond_f rfl ?_
      refine wk_exit ?_
      refine wk_seq ?_
      refine wk_mix 3 (fun _ => .none) (by kernel_rfl) (by kernel_rfl) (fun kS G hk => by cases hk) (fun kS s y G hk => by cases hk) ?_
      simp only [List.take_succ_cons, List.take_zero, List.take_nil, List.drop_succ_cons, List.drop_zero, List.drop_nil]
      refine mx_calm rfl (want rfl) (fun u15 eu15 fu15 => mv_slice ho1_4) ?_
      refine mx_calm rfl (want rfl) (fun u16 eu16 fu16 => rn_loadBlk ag_36 sz_36 (A1.at 5 rfl rfl) (BL1_2.ext ((ext_drawn _).trans' eu16)) rfl rfl) ?_
      refine mx_calm rfl (want rfl) (fun u17 eu17 fu17 => as_slice rfl) ?_
      refine mx_nil (fun w7 E5' H3 HS => ?_)
      have E5 := (ext_drawn _).trans' E5'
      have F11 := F6.ext E5
      have hz5 := E5.size
      refine lx_set (want rfl) sz_36 (A1.at 5 rfl rfl) (t_agg rfl) rfl rfl rfl (BL1_2.ext E5) (Nat.le_of_ble_eq_true rfl) ?_
      intro w8 Es4 Bs4
      have F12 := F11.set Es4 (by omega)
      have hzs4 := Es4.size
      refine lx_value (want rfl) (as_int rfl) ?_
      refine lx_nil ?_
      refine wk_ret ?_
      refine retR3 Tryz.results49 (.tmp (t_slice rfl)) (.cell (A1.at 5 rfl rfl) (run_loadVar_blk ag_36 sz_36 Bs4 rfl rfl)) (.tmp (t_int rfl)) F12 ?_
      first | exact outZ_0 hp hv0 hend (own_ints ((ow1L_4.ext E5).ne Es4 (fun h => ne1L_4_2 _ h rfl)) ge1L_4) | exact outZ_3 hp hin | exact outZ_4 (by rw [hp]; decide)
    ·
     have hend := stq_kind hq h4
     refine lx_value (want rfl) (pick_t rfl rfl) ?_
     refine lx_value (want rfl) (mv_bool rfl) ?_
     refine lx_skip (want_if (j := 8) (d := 35) (x := true) (y := false) rfl rfl (by decide) rfl) ?_
     refine lx_skip (want_if (j := 8) (d := 35) (x := true) (y := false) rfl rfl (by decide) rfl) ?_
     refine lx_skip (want_if (j := 8) (d := 35) (x := true) (y := false) rfl rfl (by decide) rfl) ?_
     refine lx_skip (want_if (j := 8) (d := 35) (x := true) (y := false) rfl rfl (by decide) rfl) ?_
     refine lx_skip (want_if (j := 8) (d := 35) (x := true) (y := false) rfl rfl (by decide) rfl) ?_
     refine lx_skip (want_if (j := 8) (d := 35) (x := true) (y := false) rfl rfl (by decide) rfl) ?_
     refine lx_skip (want_if (j := 8) (d := 35) (x := true) (y := false) rfl rfl (by decide) rfl) ?_
     refine lx_skip (want_if (j := 8) (d := 35) (x := true) (y := false) rfl rfl (by decide) rfl) ?_
     refine lx_value (want rfl) (pick_f rfl rfl) ?_
     refine lx_value (want rfl) (mv_bool rfl) ?_
     refine lx_skip (want_if (j := 18) (d := 45) (x := true) (y := false) rfl rfl (by decide) rfl) ?_
     refine lx_skip (want_if (j := 18) (d := 45) (x := true) (y := false) rfl rfl (by decide) rfl) ?_
     refine lx_skip (want_if (j := 18) (d := 45) (x := true) (y := false) rfl rfl (by decide) rfl) ?_
     refine lx_skip (want_if (j := 18) (d := 45) (x := true) (y := false) rfl rfl (by decide) rfl) ?_
     refine lx_skip (want_if (j := 18) (d := 45) (x := true) (y := false) rfl rfl (by decide) rfl) ?_
     refine lx_skip (want_if (j := 18) (d := 45) (x := true) (y := false) rfl rfl (by decide) rfl) ?_
     refine lx_skip (want_if (j := 18) (d := 45) (x := true) (y := false) rfl rfl (by decide) rfl) ?_
     refine lx_skip (want_if (j := 18) (d := 45) (x := true) (y := false) rfl rfl (by decide) rfl) ?_
     refine lx_skip (want_if (j := 18) (d := 45) (x := true) (y := false) rfl rfl (by decide) rfl) ?_
     refine lx_skip (want_if (j := 18) (d := 45) (x := true) (y := false) rfl rfl (by decide) rfl) ?_
     refine lx_value (want rfl) (pick_f rfl rfl) ?_
     refine lx_nil ?_
     refine wk_cond_f rfl ?_
     refine wk_exit ?_
     refine wk_seq ?_
     refine wk_mix 3 (fun _ => .none) (by kernel_rfl) (by kernel_rfl) (fun kS G hk => by cases hk) (fun kS s y G hk => by cases hk) ?_
     simp only [List.take_succ_cons, List.take_zero, List.take_nil, List.drop_succ_cons, List.drop_zero, List.drop_nil]
     refine mx_calm rfl (want rfl) (fun u18 eu18 fu18 => mv_slice ho1_4) ?_
     refine mx_calm rfl (want rfl) (fun u19 eu19 fu19 => rn_loadBlk ag_36 sz_36 (A1.at 5 rfl rfl) (BL1_2.ext ((ext_drawn _).trans' eu19)) rfl rfl) ?_
     refine mx_calm rfl (want rfl) (fun u20 eu20 fu20 => as_slice rfl) ?_
     refine mx_nil (fun w7 E6' H4 HS => ?_)
     have E6 := (ext_drawn _).trans' E6'
     have F13 := F6.ext E6
     have hz6 := E6.size
     refine lx_set (want rfl) sz_36 (A1.at 5 rfl rfl) (t_agg rfl) rfl rfl rfl (BL1_2.ext E6) (Nat.le_of_ble_eq_true rfl) ?_
     intro w8 Es5 Bs5
     have F14 := F13.set Es5 (by omega)
     have hzs5 := Es5.size
     refine lx_value (want rfl) (as_int rfl) ?_
     refine lx_nil ?_
     refine wk_ret ?_
     refine retR3 Tryz.results49 (.tmp (t_slice rfl)) (.cell (A1.at 5 rfl rfl) (run_loadVar_blk ag_36 sz_36 Bs5 rfl rfl)) (.tmp (t_int rfl)) F14 ?_
     first | exact outZ_0 hp hv0 hend (own_ints ((ow1L_4.ext E6).ne Es5 (fun h => ne1L_4_2 _ h rfl)) ge1L_4) | exact outZ_3 hp hin | exact outZ_4 (by rw [hp]; decide)
   ·
    have hend := stq_full hq (by omega)
    refine lx_value (want rfl) (mv_bool rfl) ?_
    refine lx_skip (want_if (j := 3) (d := 30) (x := true) (y := false) rfl rfl (by decide) rfl) ?_
    refine lx_skip (want_if (j := 3) (d := 30) (x := true) (y := false) rfl rfl (by decide) rfl) ?_
    refine lx_skip (want_if (j := 3) (d := 30) (x := true) (y := false) rfl rfl (by decide) rfl) ?_
    refine lx_value (want rfl) (pick_f rfl rfl) ?_
    refine lx_value (want rfl) (mv_bool rfl) ?_
    refine lx_skip (want_if (j := 8) (d := 35) (x := true) (y := false) rfl rfl (by decide) rfl) ?_
    refine lx_skip (want_if (j := 8) (d := 35) (x := true) (y := false) rfl rfl (by decide) rfl) ?_
    refine lx_skip (want_if (j := 8) (d := 35) (x := true) (y := false) rfl rfl (by decide) rfl) ?_
    refine lx_skip (want_if (j := 8) (d := 35) (x := true) (y := false) rfl rfl (by decide) rfl) ?_
    refine lx_skip (want_if (j := 8) (d := 35) (x := true) (y := false) rfl rfl (by decide) rfl) ?_
    refine lx_skip (want_if (j := 8) (d := 35) (x := true) (y := false) rfl rfl (by decide) rfl) ?_
    refine lx_skip (want_if (j := 8) (d := 35) (x := true) (y := false) rfl rfl (by decide) rfl) ?_
    refine lx_skip (want_if (j := 8) (d := 35) (x := true) (y := false) rfl rfl (by decide) rfl) ?_
    refine lx_value (want rfl) (pick_f rfl rfl) ?_
    refine lx_value (want rfl) (mv_bool rfl) ?_
    refine lx_skip (want_if (j := 18) (d := 45) (x := true) (y := false) rfl rfl (by decide) rfl) ?_
    refine lx_skip (want_if (j := 18) (d := 45) (x := true) (y := false) rfl rfl (by decide) rfl) ?_
    refine lx_skip (want_if (j := 18) (d := 45) (x := true) (y := false) rfl rfl (by decide) rfl) ?_
    refine lx_skip (want_if (j := 18) (d := 45) (x := true) (y := false) rfl rfl (by decide) rfl) ?_
    refine lx_skip (want_if (j := 18) (d := 45) (x := true) (y := false) rfl rfl (by decide) rfl) ?_
    refine lx_skip (want_if (j := 18) (d := 45) (x := true) (y := false) rfl rfl (by decide) rfl) ?_
    refine lx_skip (want_if (j := 18) (d := 45) (x := true) (y := false) rfl rfl (by decide) rfl) ?_
    refine lx_skip (want_if (j := 18) (d := 45) (x := true) (y := false) rfl rfl (by decide) rfl) ?_
    refine lx_skip (want_if (j := 18) (d := 45) (x := true) (y := false) rfl rfl (by decide) rfl) ?_
    refine lx_skip (want_if (j := 18) (d := 45) (x := true) (y := false) rfl rfl (by decide) rfl) ?_
    refine lx_value (want rfl) (pick_f rfl rfl) ?_
    refine lx_nil ?_
    refine wk_cond_f rfl ?_
    refine wk_exit ?_
    refine wk_seq ?_
    refine wk_mix 3 (fun _ => .none) (by kernel_rfl) (by kernel_rfl) (fun kS G hk => by cases hk) (fun kS s y G hk => by cases hk) ?_
    simp only [List.take_succ_cons, List.take_zero, List.take_nil, List.drop_succ_cons, List.drop_zero, List.drop_nil]
    refine mx_calm rfl (want rfl) (fun u21 eu21 fu21 => mv_slice ho1_4) ?_
    refine mx_calm rfl (want rfl) (fun u22 eu22 fu22 => rn_loadBlk ag_36 sz_36 (A1.at 5 rfl rfl) (BL1_2.ext ((ext_drawn _).trans' eu22)) rfl rfl) ?_
    refine mx_calm rfl (want rfl) (fun u23 eu23 fu23 => as_slice rfl) ?_
    refine mx_nil (fun w7 E7' H5 HS => ?_)
    have E7 := (ext_drawn _).trans' E7'
    have F15 := F6.ext E7
    have hz7 := E7.size
    refine lx_set (want rfl) sz_36 (A1.at 5 rfl rfl) (t_agg rfl) rfl rfl rfl (BL1_2.ext E7) (Nat.le_of_ble_eq_true rfl) ?_
    intro w8 Es6 Bs6
    have F16 := F15.set Es6 (by omega)
    have hzs6 := Es6.size
    refine lx_value (want rfl) (as_int rfl) ?_
    refine lx_nil ?_
    refine wk_ret ?_
    refine retR3 Tryz.results49 (.tmp (t_slice rfl)) (.cell (A1.at 5 rfl rfl) (run_loadVar_blk ag_36 sz_36 Bs6 rfl rfl)) (.tmp (t_int rfl)) F16 ?_
    first | exact outZ_0 hp hv0 hend (own_ints ((ow1L_4.ext E7).ne Es6 (fun h => ne1L_4_2 _ h rfl)) ge1L_4) | exact outZ_3 hp hin | exact outZ_4 (by rw [hp]; decide)
  ·
   replace hin := of_decide_eq_false hin
   refine lx_value (want rfl) (rn_not rfl) ?_
   refine lx_value (want rfl) (as_bool rfl) ?_
   refine lx_nil ?_
   refine wk_cond_t rfl ?_
   refine wk_seq ?_
   refine wk_mix 2 (fun _ => .none) (by kernel_rfl) (by kernel_rfl) (fun kS G hk => by cases hk) (fun kS s y G hk => by cases hk) ?_
   simp only [List.take_succ_cons, List.take_zero, List.take_nil, List.drop_succ_cons, List.drop_zero, List.drop_nil]
   refine mx_calm rfl (want rfl) (fun u24 eu24 fu24 => rn_loadBlk ag_36 sz_36 rfl (((B2.ext E1).ext E2).ext ((ext_drawn _).trans' eu24)) rfl rfl) ?_
   refine mx_calm rfl (want rfl) (fun u25 eu25 fu25 => as_slice rfl) ?_
   refine mx_nil (fun w5 E8' H6 HS => ?_)
   have E8 := (ext_drawn _).trans' E8'
   have F17 := F4.ext E8
   have hz8 := E8.size
   refine lx_set (want rfl) sz_36 rfl (t_agg rfl) rfl rfl rfl (((B2.ext E1).ext E2).ext E8) (Nat.le_of_ble_eq_true rfl) ?_
   intro w6 Es7 Bs7
   have F18 := F17.set Es7 (by omega)
   have hzs7 := Es7.size
   refine lx_value (want rfl) (as_int rfl) ?_
   refine lx_nil ?_
   refine wk_ret ?_
   refine retR3 Tryz.results49 (.tmp (t_slice rfl)) (.cell rfl (run_loadVar_blk ag_36 sz_36 Bs7 rfl rfl)) (.tmp (t_int rfl)) F18 ?_
   first | exact outZ_0 hp hv0 hend (own_ints ((((((OwnS.nil w1 3 1).ext Eb2).ext E1).ext E2).ext E8).ne Es7 (fun h => (ob_none h : False))) (fun _ h => ob_none h)) | exact outZ_3 hp hin | exact outZ_4 (by rw [hp]; decide)
 ·
  refine lx_value (want rfl) (rn_not rfl) ?_
  refine lx_value (want rfl) (as_bool rfl) ?_
  refine lx_nil ?_
  refine wk_cond_t rfl ?_
  refine wk_seq ?_
  refine wk_mix 2 (fun _ => .none) (by kernel_rfl) (by kernel_rfl) (fun kS G hk => by cases hk) (fun kS s y G hk => by cases hk) ?_
  simp only [List.take_succ_cons, List.take_zero, List.take_nil, List.drop_succ_cons, List.drop_zero, List.drop_nil]
  refine mx_calm rfl (want rfl) (fun u26 eu26 fu26 => rn_loadBlk ag_36 sz_36 rfl ((B2.ext E1).ext ((ext_drawn _).trans' eu26)) rfl rfl) ?_
  refine mx_calm rfl (want rfl) (fun u27 eu27 fu27 => as_slice rfl) ?_
  refine mx_nil (fun w4 E9' H7 HS => ?_)
  have E9 := (ext_drawn _).trans' E9'
  have F19 := F3.ext E9
  have hz9 := E9.size
  refine lx_set (want rfl) sz_36 rfl (t_agg rfl) rfl rfl rfl ((B2.ext E1).ext E9) (Nat.le_of_ble_eq_true rfl) ?_
  intro w5 Es8 Bs8
  have F20 := F19.set Es8 (by omega)
  have hzs8 := Es8.size
  refine lx_value (want rfl) (as_int rfl) ?_
  refine lx_nil ?_
  refine wk_ret ?_
  refine retR3 Tryz.results49 (.tmp (t_slice rfl)) (.cell rfl (run_loadVar_blk ag_36 sz_36 Bs8 rfl rfl)) (.tmp (t_int rfl)) F20 ?_
  first | exact outZ_0 hp hv0 hend (own_ints (((((OwnS.nil w1 3 1).ext Eb2).ext E1).ext E9).ne Es8 (fun h => (ob_none h : False))) (fun _ h => ob_none h)) | exact outZ_3 hp hin | exact outZ_4 (by rw [hp]; decide)

set_option maxHeartbeats 2000000 in
theorem pshow_ct (p : Pic) (sv : Option Addr) (cv : Nat) (sk : Option Addr) (ck : Nat) (G : Nat → Prop) (hB : Bp p) (dp : Int) (T : World → Prop) (GT : Nat → Prop) (hSt : ∀ {S : Nat → Prop} {w w2 : World}, Fr S w w2 → (∀ k, GT k → ¬ S k) → T w → T w2) (hI : isPicB p = true → ∀ v, PicV p v → ItP Tryz.prog T 156 v) (w0 : World) (hv : VlS G w0 sv p.1) (hk : VvS G w0 sk p.2) (hGTl : ∀ k, GT k → k < w0.heap.size) (hTw : T w0) :
  CT Tryz.prog 51 [.agg #[.slice sv p.1.length cv, .slice sk p.2.length ck], .int .i64 dp] w0 no (fun v _ => v = showV (showR p dp)) := by
 have hB1 := hB.1
 have hB2 := hB.2.1
 have hv2 := vl_lt hv
 have hk2 : VvS (fun k => (G k ∨ GT k) ∧ k < w0.heap.size) w0 sk p.2 := vv_wide (vv_lt hk) (fun k h => ⟨.inl h.1, h.2⟩)
 have F0 := Fr.refl no w0
 refine ct_body Tryz.func51 rfl Tryz.ntmps51 (Nat.le_of_ble_eq_true rfl) ?_
 refine wk_seq ?_
 refine wk_region ?_
 refine lx_new (want rfl) (rn_box (t_agg rfl)) ?_
 intro b1 w1 hb1 Eb1 B1 hlb1
 have F1 := F0.ext Eb1
 have hzb1 := Eb1.size
 refine lx_value (want rfl) (as_string rfl) ?_
 refine lx_value (want rfl) (as_int rfl) ?_
 refine lx_nil ?_
 refine wk_seq ?_
 refine wk_block ?_
 refine wk_seq ?_
 refine wk_region ?_
 refine lx_value (want rfl) (rn_loadBlk ag_45 sz_45 rfl B1 rfl rfl) ?_
 refine lx_call (want rfl) (ent_func cf_33 (argsC (t_agg rfl) args0)) (pispic_ct p sv cv sk ck G hB w1 (hv.fr (vl_stab _) F1 (fun _ _ h => h)) (hk.fr (vv_stab _) F1 (fun _ _ h => h))) ?_
 rintro _ w2 E1 rfl
 have F2 := F1.ext E1
 have hz1 := E1.size
 refine lx_split (fun hp => ?_) (fun hp => ?_)
 ·
  refine lx_value (want rfl) (rn_not rfl) ?_
  refine lx_value (want rfl) (as_bool rfl) ?_
  refine lx_nil ?_
  refine wk_cond_f rfl ?_
  refine wk_seq ?_
  refine wk_region ?_
  refine lx_value (want rfl) (mv_int rfl) ?_
  refine lx_call (want rfl) (ent_func cf_94 (argsC (t_int rfl) (argsC (t_int rfl) (argsC (t_int rfl) args0)))) (within_ct _ _ _ w2) ?_
  rintro _ w3 E2 rfl
  have F3 := F2.ext E2
  have hz2 := E2.size
  refine lx_split (fun hd => ?_) (fun hd => ?_)
  ·
   replace hd := of_decide_eq_true hd
   obtain ⟨dn, rfl⟩ : ∃ n : Nat, dp = n := ⟨dp.toNat, by omega⟩
   refine lx_value (want rfl) (rn_not rfl) ?_
   refine lx_value (want rfl) (as_bool rfl) ?_
   refine lx_nil ?_
   refine wk_cond_f rfl ?_
   refine wk_skip ?_
   refine wk_seq ?_
   refine wk_region ?_
   refine lx_value (want rfl) (rn_fieldAddr fa_45_1 rfl) ?_
   refine lx_value (want rfl) (rn_load1Blk ag_43 rfl ((B1.ext E1).ext E2) rfl) ?_
   refine lx_value (want rfl) (rn_build1 (t_slice rfl) (fun w => bd_149_1 _ _ _ w)) ?_
   refine lx_new (want rfl) (rn_box (t_agg rfl)) ?_
   intro b2 w4 hb2 Eb2 B2 hlb2
   have F4 := F3.ext Eb2
   have hzb2 := Eb2.size
   obtain ⟨Z5, hMs, hMsi⟩ := sh_new (lo := w1.heap.size) B2 (by omega)
   have hinc := fun (k : Nat) (hk : zz zn Z5 k) => (Or.inr (hMsi k hk) : zz none (fun _ => False) k ∨ w1.heap.size ≤ k)
   have hlb18 := hMs.lt hMs.in
   have hGZ5 : ∀ k, (G k ∧ k < w0.heap.size) → ¬ Z5 k := fun k hk h => by have := hMsi k h; have := hk.2; omega
   have hGZ6 : ∀ k, ((G k ∨ GT k) ∧ k < w0.heap.size) → ¬ Z5 k := fun k hk h => by have := hMsi k h; have := hk.2; omega
   have tg2 : ∀ k, zz zn Z5 k → w0.heap.size ≤ k := fun k hk => (hinc k hk).elim ((fun _ h => zz_nil h) k) (fun h => by omega)
   have tn2_1 : ∀ k, zz zn Z5 k → k ≠ b1 := fun k hk => (hinc k hk).elim ((fun _ h => zz_nil h) k) (fun h => by have := (B1).lt; omega)
   refine lx_value (want rfl) (as_pointer rfl) ?_
   refine lx_nil ?_
   refine wk_seq ?_
   refine wk_region ?_
   refine lx_value (want rfl) (mv_pointer rfl) ?_
   refine lx_value (want rfl) (rn_fieldAddr fa_45_0 rfl) ?_
   refine lx_value (want rfl) (rn_load1Blk ag_30 rfl (((B1.ext E1).ext E2).ext Eb2) rfl) ?_
   refine lx_value (want rfl) (mv_int rfl) ?_
   refine lx_call (want rfl) (ent_func cf_95 (argsC (t_pointer rfl) (argsC (t_slice rfl) (argsC (t_int rfl) args0)))) ((showall_ct (showOk_pic (G := fun k => (G k ∨ GT k) ∧ k < w0.heap.size) (T := T) (fun hf hS h => hSt hf (fun k hk => hS k ⟨.inr hk, hGTl k hk⟩) h) hp (hI hp)) b2 dn (by omega)).1 Z5 [] p.1 sv cv (fun k => G k ∧ k < w0.heap.size) w4 hGZ5 (fun k hk => Nat.lt_of_lt_of_le hk.2 F4.size) hGZ6 (fun k hk => Nat.lt_of_lt_of_le hk.2 F4.size) (fun v hv => .inl hv) hB.1 (Nat.zero_le _) hMs (hv2.fr (vl_stab _) F4 (fun _ _ h => h)) (hk2.fr (vv_stab _) F4 (fun _ _ h => h)) (hSt F4 (fun _ _ h => h) hTw)) ?_
   rintro _ w5 E3 ⟨bs2, Z3, hq2, hM3, hi3⟩
   have F5 := F4.new E3 (fun k h => tg2 k h)
   have hz3 := E3.size
   have tg3 : ∀ k, zz zn Z3 k → w0.heap.size ≤ k := fun k hk => (hi3 k hk).elim (tg2 k) (fun h => by omega)
   have tn3_1 : ∀ k, zz zn Z3 k → k ≠ b1 := fun k hk => (hi3 k hk).elim (tn2_1 k) (fun h => by have := (B1).lt; omega)
   refine lx_nil ?_
   refine wk_seq ?_
   refine wk_seq ?_
   refine wk_region ?_
   refine lx_value (want rfl) (mv_pointer rfl) ?_
   refine lx_call (want rfl) (ent_func cf_96 (argsC (t_pointer rfl) args0)) (isfullS_ct hM3) ?_
   rintro _ w6 E4 rfl
   have F6 := F5.ext E4
   have hz4 := E4.size
   refine lx_split (fun hf => ?_) (fun hf => ?_)
   ·
    replace hf := of_decide_eq_true hf
    refine lx_nil ?_
    refine wk_cond_t rfl ?_
    refine wk_seq ?_
    refine wk_region ?_
    refine lx_value (want rfl) (as_string rfl) ?_
    refine lx_value (want rfl) (as_int rfl) ?_
    refine lx_nil ?_
    refine wk_ret ?_
    refine retR2 Tryz.results51 (.tmp (t_string rfl)) (.tmp (t_int rfl)) F6 ?_
    exact showR_5 hp hd hq2 hf
   ·
    replace hf := of_decide_eq_false hf
    refine lx_nil ?_
    refine wk_cond_f rfl ?_
    refine wk_skip ?_
    refine wk_seq ?_
    refine wk_region ?_
    refine lx_value (want rfl) (mv_pointer rfl) ?_
    refine lx_value (want rfl) (rn_nilCheck rfl) ?_
    refine lx_value (want rfl) (rn_fieldAddr fa_149_0 rfl) ?_
    refine lx_call (want rfl) (ent_func cf_97 (argsC (t_pointer rfl) args0)) (bstring_ct Z3 b2 bs2 sk p.2.length ck (by have := hq2.2.2; omega) w6 (hM3.ext E4)) ?_
    rintro _ w7 E5 rfl
    have F7 := F6.new E5 (fun k h => tg3 k h)
    have hz5 := E5.size
    refine lx_value (want rfl) (as_string rfl) ?_
    refine lx_value (want rfl) (as_int rfl) ?_
    refine lx_nil ?_
    refine wk_ret ?_
    refine retR2 Tryz.results51 (.tmp (t_string rfl)) (.tmp (t_int rfl)) F7 ?_
    exact showR_0 hp hd hq2 (by omega)
  ·
   replace hd := of_decide_eq_false hd
   refine lx_value (want rfl) (rn_not rfl) ?_
   refine lx_value (want rfl) (as_bool rfl) ?_
   refine lx_nil ?_
   refine wk_cond_t rfl ?_
   refine wk_seq ?_
   refine wk_region ?_
   refine lx_value (want rfl) (as_string rfl) ?_
   refine lx_value (want rfl) (as_int rfl) ?_
   refine lx_nil ?_
   refine wk_ret ?_
   refine retR2 Tryz.results51 (.tmp (t_string rfl)) (.tmp (t_int rfl)) F3 ?_
   exact showR_3 hp hd
 ·
  refine lx_value (want rfl) (rn_not rfl) ?_
  refine lx_value (want rfl) (as_bool rfl) ?_
  refine lx_nil ?_
  refine wk_cond_t rfl ?_
  refine wk_seq ?_
  refine wk_region ?_
  refine lx_value (want rfl) (as_string rfl) ?_
  refine lx_value (want rfl) (as_int rfl) ?_
  refine lx_nil ?_
  refine wk_ret ?_
  refine retR2 Tryz.results51 (.tmp (t_string rfl)) (.tmp (t_int rfl)) F2 ?_
  exact showR_4 (by rw [hp]; exact Bool.false_ne_true)

end Go.Proofs.YtnhgfmbmfjmonaaGreatDoor

/- What functions compute: pread, showvalue. -/
import Derived.Test.YtnhgfmbmfjmonaaGreatDoorNamesFacts
import Derived.Test.YtnhgfmbmfjmonaaGreatDoorNamesPre
import Derived.Test.YtnhgfmbmfjmonaaGreatDoorNamesWalk2
import Derived.Test.YtnhgfmbmfjmonaaGreatDoorNamesWalk4
import Derived.Test.YtnhgfmbmfjmonaaGreatDoorNamesWalk5
set_option maxRecDepth 100000
set_option linter.unusedVariables false
set_option linter.unusedSimpArgs false
namespace Go.Proofs.YtnhgfmbmfjmonaaGreatDoor
open Go Go.RowKit Go.Mix Go.Eng
set_option maxRecDepth 100000 in
theorem pread_ct (Z : Nat → Prop) (b : Nat) (m : Mem) (tl : List Tl) (hok : okM m = true) (s2 ix : Vl) (hs : s2.1 = 4 → 0 ≤ s2.2 ∧ num s2 < m.length) (rd : Int) (w0 : World) (hM : MO Z w0 b m tl) :
  CT Tryz.prog 117 [.pointer (some ⟨b, 0, none⟩), .agg #[.int .u8 s2.1, .int .i64 s2.2], .agg #[.int .u8 ix.1, .int .i64 ix.2], .int .i64 rd] w0 Z (fun v w => OutX Z w0.heap.size b m tl w v (readR m s2 ix rd)) := by
 obtain ⟨sM, cM, TM, stM, ctM, hT, hBm, hTm, hOm, hnb, hnt, hsep, hZb50, hZt1, hZo2, hZl⟩ := hM
 have hTl : TM.length = m.length := by have := congrArg List.length hT; simpa using this
 have hlb := hBm.lt
 have hBl := okM_Bm hok
 have hB1 := hBl.1
 have hw6 := (okM_iff.1 hok).2.2
 have F0 := Fr.refl Z w0
 have zt1 : ∀ k, mtb sM TM k → Z k ∨ w0.heap.size ≤ k := fun k h => .inl (hZt1 k h)
 have zo2 : ∀ k, ob stM k → Z k ∨ w0.heap.size ≤ k := fun k h => .inl (hZo2 k h)
 refine ct_body Tryz.func117 rfl Tryz.ntmps117 (Nat.le_of_ble_eq_true rfl) ?_
 refine wk_seq ?_
 refine wk_region ?_
 refine lx_new (want rfl) (rn_box (t_agg rfl)) ?_
 intro b21 w1 hb21 Eb21 B21 hlb21
 have F1 := F0.ext Eb21
 have hzb21 := Eb21.size
 have nb1 : ∀ k, ob stM k → k ≠ b21 := fun k hk => by have := (hOm).lt hk; omega
 have nb2 : ∀ k, mtb sM TM k → k ≠ b21 := fun k hk => by have := (hTm).lt hk; omega
 refine lx_new (want rfl) (rn_box (t_agg rfl)) ?_
 intro b22 w2 hb22 Eb22 B22 hlb22
 have F2 := F1.ext Eb22
 have hzb22 := Eb22.size
 have nb3 : ∀ k, ob stM k → k ≠ b22 := fun k hk => by have := (hOm).lt hk; omega
 have nb4 : ∀ k, mtb sM TM k → k ≠ b22 := fun k hk => by have := (hTm).lt hk; omega
 refine lx_new (want rfl) (rn_alloc ze_36) ?_
 intro b23 w3 hb23 Eb23 B23 hlb23
 have F3 := F2.ext Eb23
 have hzb23 := Eb23.size
 have nb5 : ∀ k, ob stM k → k ≠ b23 := fun k hk => by have := (hOm).lt hk; omega
 have nb6 : ∀ k, mtb sM TM k → k ≠ b23 := fun k hk => by have := (hTm).lt hk; omega
 refine lx_value (want rfl) (as_int rfl) ?_
 refine lx_nil ?_
 refine wk_seq ?_
 refine wk_region ?_
 refine lx_value (want rfl) (mv_pointer rfl) ?_
 refine lx_value (want rfl) (rn_loadBlk ag_36 sz_36 rfl ((B21.ext Eb22).ext Eb23) rfl rfl) ?_
 refine lx_value (want rfl) (rn_loadBlk ag_36 sz_36 rfl (B22.ext Eb23) rfl rfl) ?_
 refine lx_call (want rfl) (ent_func cf_153 (argsC (t_pointer rfl) (argsC (t_agg rfl) (argsC (t_agg rfl) args0)))) (cell_ct m b sM cM TM _ stM _ ctM hBl s2 ix hs w3 (((hBm.ext Eb21).ext Eb22).ext Eb23) hT (((hTm.ext Eb21).ext Eb22).ext Eb23)) ?_
 rintro _ w4 E1 ⟨ad, rfl, hcn, hcs⟩
 have F4 := F3.ext E1
 have hz1 := E1.size
 refine lx_value (want rfl) (as_pointer rfl) ?_
 refine lx_nil ?_
 refine wk_seq ?_
 refine wk_block ?_
 refine wk_seq ?_
 refine wk_region ?_
 refine lx_value (want rfl) (mv_pointer rfl) ?_
 refine lx_value (want rfl) (rn_neqP Tryz.underlying194 rfl rfl) ?_
 refine lx_split (fun hn => ?_) (fun hn => ?_)
 ·
  have hf : fitB m s2 ix = true := fit_yes hcn hn
  obtain ⟨bA, oA, cA, sB, cB, x, hx, hsx, he, hnx, hni, rfl⟩ := hcs hf
  have hTo := ((((hTm.ext Eb21).ext Eb22).ext Eb23).ext E1)
  obtain ⟨u, hu⟩ : ∃ u, x.1[num ix]? = some u := ⟨_, List.getElem?_eq_getElem hnx⟩
  have hBx := hBl.get hx
  obtain ⟨bT, oT, hsT, hcA, hcB⟩ := hTo.get he
  subst hsT
  have hltT := (List.getElem?_eq_some_iff.1 he).1
  obtain ⟨hs0, hsl⟩ := hs (by obtain ⟨_, _, _, _, _, g4, _⟩ := fit_at hf; exact g4)
  refine lx_value (want rfl) (mv_bool rfl) ?_
  refine lx_value (want_if (j := 2) (d := 19) (x := true) (y := true) rfl rfl (by decide) rfl) (mv_pointer rfl) ?_
  refine lx_value (want_if (j := 2) (d := 19) (x := true) (y := true) rfl rfl (by decide) rfl) (rn_nilCheck rfl) ?_
  refine lx_value (want_if (j := 2) (d := 19) (x := true) (y := true) rfl rfl (by decide) rfl) (rn_load2 ag_36 sz_36 rfl (vl_cell (((((hTm.ext Eb21).ext Eb22).ext Eb23).ext E1).ownA _ _ he) hu 0 _ rfl) (vl_cell (((((hTm.ext Eb21).ext Eb22).ext Eb23).ext E1).ownA _ _ he) hu 1 _ rfl)) ?_
  refine lx_call (want_if (j := 2) (d := 19) (x := true) (y := true) rfl rfl (by decide) rfl) (ent_func cf_99 (argsC (t_agg rfl) args0)) (ishole_ct _ _ w4) ?_
  rintro _ w5 E2 rfl
  have F5 := F4.ext E2
  have hz2 := E2.size
  refine lx_split (fun h0d => ?_) (fun h0d => ?_)
  ·
   have h0d := of_decide_eq_true h0d
   refine lx_value (want_if (j := 2) (d := 19) (x := true) (y := true) rfl rfl (by decide) rfl) (rn_not rfl) ?_
   refine lx_value (want rfl) (pick_t rfl rfl) ?_
   refine lx_value (want rfl) (as_bool rfl) ?_
   refine lx_nil ?_
   refine wk_cond_f rfl ?_
   refine wk_seq ?_
   refine wk_region ?_
   refine lx_value (want rfl) (mv_pointer rfl) ?_
   refine lx_value (want rfl) (rn_neqP Tryz.underlying194 rfl rfl) ?_
   refine lx_b_t (rfl) ?_
   refine lx_value (want rfl) (mv_bool rfl) ?_
   refine lx_value (want_if (j := 2) (d := 32) (x := true) (y := true) rfl rfl (by decide) rfl) (mv_pointer rfl) ?_
   refine lx_value (want_if (j := 2) (d := 32) (x := true) (y := true) rfl rfl (by decide) rfl) (rn_nilCheck rfl) ?_
   refine lx_value (want_if (j := 2) (d := 32) (x := true) (y := true) rfl rfl (by decide) rfl) (rn_fieldAddr fa_113_1 rfl) ?_
   refine lx_value (want_if (j := 2) (d := 32) (x := true) (y := true) rfl rfl (by decide) rfl) (rn_load1Blk ag_3 rfl (((((hBm.ext Eb21).ext Eb22).ext Eb23).ext E1).ext E2) rfl) ?_
   refine lx_value (want_if (j := 2) (d := 32) (x := true) (y := true) rfl rfl (by decide) rfl) (rn_eql rfl rfl) ?_
   refine lx_dec (fun h6 => ?_) (fun h6 => ?_)
   ·
    refine lx_value (want rfl) (pick_t rfl rfl) ?_
    refine lx_value (want rfl) (as_bool rfl) ?_
    refine lx_nil ?_
    refine wk_cond_t rfl ?_
    refine wk_seq ?_
    refine wk_region ?_
    refine lx_value (want rfl) (rn_build0  (fun w => bd_36  w)) ?_
    refine lx_set (want rfl) sz_36 rfl (t_agg rfl) rfl rfl rfl ((B23.ext E1).ext E2) (Nat.le_of_ble_eq_true rfl) ?_
    intro w6 Es1 Bs1
    have F6 := F5.set Es1 (by omega)
    have hzs1 := Es1.size
    refine lx_value (want rfl) (as_int rfl) ?_
    refine lx_nil ?_
    refine wk_ret ?_
    refine retR2 Tryz.results117 (.cell rfl (run_loadVar_blk ag_36 sz_36 Bs1 rfl rfl)) (.tmp (t_int rfl)) F6 ?_
    exact outx_err (rdX_full hf hsx hu (fun g => g h0d) h6) (by decide) rfl (mo_mk hT ((((((hBm.ext Eb21).ext Eb22).ext Eb23).ext E1).ext E2).ne Es1 (by omega)) rfl rfl rfl ((((((hTm.ext Eb21).ext Eb22).ext Eb23).ext E1).ext E2).fr Es1 (fun k hk h => nb6 k hk h)) ((((((hOm.ext Eb21).ext Eb22).ext Eb23).ext E1).ext E2).ne Es1 (fun h => nb5 _ h rfl)) hnb hnt hsep (.inl hZb50) zt1 zo2)
   ·
    refine lx_value (want rfl) (pick_t rfl rfl) ?_
    refine lx_value (want rfl) (as_bool rfl) ?_
    refine lx_nil ?_
    refine wk_cond_f rfl ?_
    refine wk_seq ?_
    refine wk_region ?_
    refine lx_value (want rfl) (mv_pointer rfl) ?_
    refine lx_value (want rfl) (rn_neqP Tryz.underlying194 rfl rfl) ?_
    refine lx_b_t (rfl) ?_
    refine lx_value (want rfl) (as_bool rfl) ?_
    refine lx_nil ?_
    refine wk_cond_t rfl ?_
    refine wk_seq ?_
    refine wk_mix 6 (fun _ => .none) (by kernel_rfl) (by kernel_rfl) (fun kS G hk => by cases hk) (fun kS s y G hk => by cases hk) ?_
    simp only [List.take_succ_cons, List.take_zero, List.take_nil, List.drop_succ_cons, List.drop_zero, List.drop_nil]
    refine mx_calm rfl (want rfl) (fun u1 eu1 fu1 => mv_pointer rfl) ?_
    refine mx_calm rfl (want rfl) (fun u2 eu2 fu2 => rn_nilCheck rfl) ?_
    refine mx_calm rfl (want rfl) (fun u3 eu3 fu3 => rn_fieldAddr fa_113_0 rfl) ?_
    refine mx_calm rfl (want rfl) (fun u4 eu4 fu4 => rn_load1Blk ag_22 rfl ((((((hBm.ext Eb21).ext Eb22).ext Eb23).ext E1).ext E2).ext ((ext_drawn _).trans' eu4)) rfl) ?_
    refine mx_calm rfl (want rfl) (fun u5 eu5 fu5 => rn_fieldAddr fa_36_1 rfl) ?_
    refine mx_calm rfl (want rfl) (fun u6 eu6 fu6 => rn_load1Blk ag_3 rfl (((((B21.ext Eb22).ext Eb23).ext E1).ext E2).ext ((ext_drawn _).trans' eu6)) rfl) ?_
    refine mx_nil (fun w6 E3' H1 HS => ?_)
    have E3 := (ext_drawn _).trans' E3'
    have F7 := F5.ext E3
    have hz3 := E3.size
    refine lx_value (want rfl) (rn_index (num s2) Tryz.underlying22 sz_65 rfl rfl (by unfold num; omega) hltT) ?_
    refine lx_value (want rfl) (as_pointer rfl) ?_
    refine lx_nil ?_
    refine wk_seq ?_
    have hcB2 : _ = some (Value.slice sB x.2.length cB) := MTab.cellB ((((((hTm.ext Eb21).ext Eb22).ext Eb23).ext E1).ext E2).ext E3) he
    have hTo := ((((((hTm.ext Eb21).ext Eb22).ext Eb23).ext E1).ext E2).ext E3)
    have hOw := hTo.ownB _ _ he
    have hSl : ∀ k, (ob sB) k → k < w6.heap.size := fun k h => (((((((hTm.ext Eb21).ext Eb22).ext Eb23).ext E1).ext E2).ext E3)).lt (.inr ⟨_, _, he, .inr h⟩)
    refine wk_mixA 11 10 (ob sB) (fun kS => match kS with | 9 => .any (fun I v w => ∃ b, v = .slice (some ⟨b, 0, none⟩) 1 1 ∧ w6.heap.size ≤ b ∧ (I.1 ≤ b ∧ b < I.2) ∧ Blk w b [.int .i64 ix.2, .int .i64 rd] 115) | 10 => .any (fun I v w => ∃ s c, v = .slice s (x.2 ++ [(ix.2, rd)]).length c ∧ OwnS w 115 2 s (x.2 ++ [(ix.2, rd)]).length c ((x.2 ++ [(ix.2, rd)]).flatMap rdC) ∧ ∀ k, ob s k → (ob sB k ∨ w6.heap.size ≤ k)) | _ => .none) (by kernel_rfl) (by kernel_rfl) (by intro kS G hk; (try dsimp only at hk); (split at hk) <;> first | (cases hk; done) | (injection hk with hk; subst hk; exact ⟨by intro j hkj I v w w' hR hG; first | exact hG | (obtain ⟨b, h1, h2, hI, h3⟩ := hG; exact ⟨b, h1, h2, hI, h3.fr (mS hR) (fun hs => by have := hSl _ hs; omega)⟩) | (obtain ⟨s, c, h1, h2, h3⟩ := hG; exact ⟨s, c, h1, h2.ext (mT hkj hR), h3⟩), fun ⟨_, _, _, _, hs⟩ => by (try dsimp only at hs); split at hs <;> cases hs⟩)) (by intro kS s y G hk; (try dsimp only at hk); split at hk <;> cases hk) ?_
    simp only [List.take_succ_cons, List.take_zero, List.take_nil, List.drop_succ_cons, List.drop_zero, List.drop_nil]
    refine mx_calm rfl (want rfl) (fun u7 eu7 fu7 => mv_pointer rfl) ?_
    refine mx_calm rfl (want rfl) (fun u8 eu8 fu8 => mv_pointer rfl) ?_
    refine mx_calm rfl (want rfl) (fun u9 eu9 fu9 => rn_nilCheck rfl) ?_
    refine mx_calm rfl (want rfl) (fun u10 eu10 fu10 => rn_fieldAddr fa_65_1 rfl) ?_
    refine mx_calm rfl (want rfl) (fun u11 eu11 fu11 => rn_load1 ag_63 rfl ((mD (by decide) eu11).cell (fun h => hTo.sep _ _ he _ (.inr h) ⟨_, _, rfl⟩) hcB2)) ?_
    refine mx_calm rfl (want rfl) (fun u12 eu12 fu12 => rn_fieldAddr fa_36_1 rfl) ?_
    refine mx_calm rfl (want rfl) (fun u13 eu13 fu13 => rn_load1Blk ag_3 rfl (((((B22.ext Eb23).ext E1).ext E2).ext E3).fr (mD (by decide) eu13) (fun h => nb4 _ (.inr ⟨_, _, he, .inr h⟩) rfl)) rfl) ?_
    refine mx_calm rfl (want rfl) (fun u14 eu14 fu14 => mv_int rfl) ?_
    refine mx_calm rfl (want rfl) (fun u15 eu15 fu15 => rn_build2 (t_int rfl) (t_int rfl) (fun w => bd_115_0_1 _ _ w)) ?_
    refine mx_any rfl rfl (want rfl) (fun u16 eu16 fu16 => (do_newS2 (rn_bslice (xs := [.tmp 58]) Tryz.underlying63 sz_115 ze_115 rfl (argsC (t_agg rfl) args0) (CL.cons rfl rfl CL.nil) rfl (Nat.le_of_ble_eq_true rfl)) (show _ ≤ _ from ((mD (by decide) eu16)).size)).mono (fun v w' h => ⟨(mE (by decide) h.1), h.2⟩)) (fun I59 v59 => ?_)
    refine mx_any rfl rfl (want rfl) (fun u17 eu17 fu17 => by obtain ⟨bS, rfl, hbS, _, hBS⟩ := fu17 59 _ rfl (show (59 : Nat) ∈ _ from by decide); exact do_append 16 Tryz.underlying63 ti_115 (by decide) rfl (by decide) rfl rfl (hOw.ext (mC eu17)) (Src.blk hBS rfl rfl) (show x.2.length + 1 ≤ 1073741824 by omega) (fun sA cA wA AP => ⟨(mF AP.fr), ⟨sA, cA, by simp, by have h := AP.own; rw [List.length_append, List.flatMap_append]; exact h, fun k hk => (AP.blk k hk).elim .inl (fun h => .inr (Nat.le_trans (mC eu17).size h))⟩⟩)) (fun I60 v60 => ?_)
    refine mx_nil (fun w7 E4' H2 HS => ?_)
    have E4 := mG E4'
    have F8 := F7.new' E4 (fun k h => zt1 k (.inr ⟨_, _, he, .inr h⟩))
    have hz4 := E4.size
    have hI60 := (HS.1 60 _ rfl).2
    have hI59 := (HS.1 59 _ rfl).2
    have hX60_59 := HS.2 60 _ 59 _ rfl rfl (show (60 : Nat) ≠ 59 from by decide)
    simp only at hI60
    simp only at hI59
    simp only at hX60_59
    have g60 := H2 60 _ rfl
    obtain ⟨sq1, cq1, rfl, hO1, hI1⟩ := g60
    have g59 := H2 59 _ rfl
    refine lx_value (want rfl) (rn_nilCheck rfl) ?_
    refine lx_value (want rfl) (rn_fieldAddr fa_65_1 rfl) ?_
    refine lx_owncell (j := (num s2) * 2 + 1) (want rfl) sz_63 rfl (t_slice rfl) rfl rfl rfl (hTo.out.fr E4 (fun k h1 h2 => hTo.sep _ _ he k (.inr h2) h1)) (by have := (List.getElem?_eq_some_iff.1 he).1; omega) ?_
    intro w8 E5' HO2
    have E5 : Fr (ob (some (⟨bT, oT, none⟩ : Addr))) _ _ := E5'.mono (fun i _ hi => ⟨_, _, by subst hi; rfl⟩)
    have F9 := F8.new' E5 (fun k h => zt1 k (.inl h))
    have hz5 := E5.size
    obtain ⟨tw2, ti2'⟩ := MTab.set (e' := (((some (⟨bA, oA, none⟩ : Addr)), cA, x.1), (sq1, cq1, x.2 ++ [(ix.2, rd)]))) hTo he (E4.mono (fun k _ h => .inr h)) ((hTo.ownA _ _ he).fr E4 (fun k h1 h2 => hTo.sepAB _ _ he k h1 h2)) hO1 (fun k h1 h2 => (hI1 k h2).elim (fun h => hTo.sepAB _ _ he k h1 h) (fun h => by have := (hTo.ownA _ _ he).lt h1; omega)) (fun k h => h.elim (fun h => .inl (.inl h)) (fun h => (hI1 k h).elim (fun h => .inl (.inr h)) (fun h => .inr (fun hm => by have := hTo.lt hm; omega)))) E5 (by rw [← flat_setB he]; exact HO2)
    have ti2 := fun (k : Nat) hk => (ti2' k hk).elim Or.inl (fun h => h.elim (fun h => Or.inl (Or.inr ⟨_, _, he, .inl h⟩)) (fun h => (hI1 k h).elim (fun h => Or.inl (Or.inr ⟨_, _, he, .inr h⟩)) Or.inr))
    have tg1 : ∀ k, mtb (some (⟨bT, oT, none⟩ : Addr)) (TM.set (num s2) (((some (⟨bA, oA, none⟩ : Addr)), cA, x.1), (sq1, cq1, x.2 ++ [(ix.2, rd)]))) k → Z k ∨ w0.heap.size ≤ k := fun k hk => (ti2 k hk).elim (zt1 k) (fun h => .inr (by omega))
    have tn1_50 : ∀ k, mtb (some (⟨bT, oT, none⟩ : Addr)) (TM.set (num s2) (((some (⟨bA, oA, none⟩ : Addr)), cA, x.1), (sq1, cq1, x.2 ++ [(ix.2, rd)]))) k → k ≠ b := fun k hk => (ti2 k hk).elim (hnb k) (fun h => by have := (hBm).lt; omega)
    have tn1_21 : ∀ k, mtb (some (⟨bT, oT, none⟩ : Addr)) (TM.set (num s2) (((some (⟨bA, oA, none⟩ : Addr)), cA, x.1), (sq1, cq1, x.2 ++ [(ix.2, rd)]))) k → k ≠ b21 := fun k hk => (ti2 k hk).elim (nb2 k) (fun h => by have := (B21).lt; omega)
    have tn1_22 : ∀ k, mtb (some (⟨bT, oT, none⟩ : Addr)) (TM.set (num s2) (((some (⟨bA, oA, none⟩ : Addr)), cA, x.1), (sq1, cq1, x.2 ++ [(ix.2, rd)]))) k → k ≠ b22 := fun k hk => (ti2 k hk).elim (nb4 k) (fun h => by have := (B22).lt; omega)
    have tn1_23 : ∀ k, mtb (some (⟨bT, oT, none⟩ : Addr)) (TM.set (num s2) (((some (⟨bA, oA, none⟩ : Addr)), cA, x.1), (sq1, cq1, x.2 ++ [(ix.2, rd)]))) k → k ≠ b23 := fun k hk => (ti2 k hk).elim (nb6 k) (fun h => by have := (B23).lt; omega)
    have ts1_2 : ∀ k, mtb (some (⟨bT, oT, none⟩ : Addr)) (TM.set (num s2) (((some (⟨bA, oA, none⟩ : Addr)), cA, x.1), (sq1, cq1, x.2 ++ [(ix.2, rd)]))) k → ob stM k → False := fun k hk h2 => (ti2 k hk).elim (fun h => hsep k h h2) (fun h => by have := (hOm).lt h2; omega)
    refine lx_nil ?_
    refine wk_seq ?_
    refine wk_region ?_
    refine lx_value (want rfl) (mv_pointer rfl) ?_
    refine lx_value (want rfl) (rn_nilCheck rfl) ?_
    refine lx_value (want rfl) (rn_fieldAddr fa_113_1 rfl) ?_
    refine lx_value (want rfl) (rn_load1Blk ag_3 rfl ((((((((hBm.ext Eb21).ext Eb22).ext Eb23).ext E1).ext E2).ext E3).fr E4 (fun h => hnb _ (.inr ⟨_, _, he, .inr h⟩) rfl)).fr E5 (fun h => hnb _ (.inl h) rfl)) rfl) ?_
    refine lx_value (want rfl) (rn_add rfl rfl (by omega)) ?_
    refine lx_value (want rfl) (rn_nilCheck rfl) ?_
    refine lx_value (want rfl) (rn_fieldAddr fa_113_1 rfl) ?_
    refine lx_set (want rfl) sz_3 rfl (t_int rfl) rfl rfl rfl ((((((((hBm.ext Eb21).ext Eb22).ext Eb23).ext E1).ext E2).ext E3).fr E4 (fun h => hnb _ (.inr ⟨_, _, he, .inr h⟩) rfl)).fr E5 (fun h => hnb _ (.inl h) rfl)) (Nat.le_of_ble_eq_true rfl) ?_
    intro w9 Es2 Bs2
    have F10 := F9.new' Es2 (fun k h => by have h : k = b := h; rw [h]; exact (.inl hZb50))
    have hzs2 := Es2.size
    refine lx_nil ?_
    refine wk_seq ?_
    refine wk_region ?_
    refine lx_call (want rfl) (ent_func cf_105 args0) (hole_ct w9) ?_
    rintro _ w10 E6 rfl
    have F11 := F10.ext E6
    have hz6 := E6.size
    refine lx_set (want rfl) sz_36 rfl (t_agg rfl) rfl rfl rfl (((((((B23.ext E1).ext E2).ext E3).fr E4 (fun h => nb6 _ (.inr ⟨_, _, he, .inr h⟩) rfl)).fr E5 (fun h => nb6 _ (.inl h) rfl)).ne Es2 (by omega)).ext E6) (Nat.le_of_ble_eq_true rfl) ?_
    intro w11 Es3 Bs3
    have F12 := F11.set Es3 (by omega)
    have hzs3 := Es3.size
    refine lx_value (want rfl) (as_int rfl) ?_
    refine lx_nil ?_
    refine wk_ret ?_
    refine retR2 Tryz.results117 (.cell rfl (run_loadVar_blk ag_36 sz_36 Bs3 rfl rfl)) (.tmp (t_int rfl)) F12 ?_
    exact outx_mk (rdX_new hok hf hsx hu (fun g => g h0d) h6) rfl (aft_0 rfl) (mo_mk (mtab_set hT rfl) ((Bs2.ext E6).ne Es3 (by omega)) (by rw [List.length_set]) (by show _ = ((waits (m.set (num s2) (x.1, x.2 ++ [(ix.2, rd)])) : Nat) : Int); rw [read_waits hx]; omega) (by simp) (((tw2.fr Es2 (fun k hk h => tn1_50 k hk h)).ext E6).fr Es3 (fun k hk h => tn1_23 k hk h)) (by rw [List.append_nil]; exact (((((((((((hOm.ext Eb21).ext Eb22).ext Eb23).ext E1).ext E2).ext E3).fr E4 (fun k h1 h => hsep k (.inr ⟨_, _, he, .inr h⟩) h1)).fr E5 (fun k h1 h => hsep k (.inl h) h1)).ne Es2 (fun h => hnt _ h rfl)).ext E6).ne Es3 (fun h => nb5 _ h rfl))) tn1_50 hnt ts1_2 (.inl hZb50) tg1 zo2)
  ·
   have h0d := of_decide_eq_false h0d
   refine lx_value (want_if (j := 2) (d := 19) (x := true) (y := true) rfl rfl (by decide) rfl) (rn_not rfl) ?_
   refine lx_value (want rfl) (pick_t rfl rfl) ?_
   refine lx_value (want rfl) (as_bool rfl) ?_
   refine lx_nil ?_
   refine wk_cond_t rfl ?_
   refine wk_seq ?_
   refine wk_region ?_
   refine lx_value (want rfl) (mv_pointer rfl) ?_
   refine lx_value (want rfl) (rn_nilCheck rfl) ?_
   refine lx_value (want rfl) (rn_load2 ag_36 sz_36 rfl (vl_cell ((((((hTm.ext Eb21).ext Eb22).ext Eb23).ext E1).ext E2).ownA _ _ he) hu 0 _ rfl) (vl_cell ((((((hTm.ext Eb21).ext Eb22).ext Eb23).ext E1).ext E2).ownA _ _ he) hu 1 _ rfl)) ?_
   refine lx_set (want rfl) sz_36 rfl (t_agg rfl) rfl rfl rfl ((B23.ext E1).ext E2) (Nat.le_of_ble_eq_true rfl) ?_
   intro w6 Es4 Bs4
   have F13 := F5.set Es4 (by omega)
   have hzs4 := Es4.size
   refine lx_value (want rfl) (as_int rfl) ?_
   refine lx_nil ?_
   refine wk_ret ?_
   refine retR2 Tryz.results117 (.cell rfl (run_loadVar_blk ag_36 sz_36 Bs4 rfl rfl)) (.tmp (t_int rfl)) F13 ?_
   exact outx_old (rdX_val hf hsx hu h0d) rfl (mo_mk hT ((((((hBm.ext Eb21).ext Eb22).ext Eb23).ext E1).ext E2).ne Es4 (by omega)) rfl rfl rfl ((((((hTm.ext Eb21).ext Eb22).ext Eb23).ext E1).ext E2).fr Es4 (fun k hk h => nb6 k hk h)) ((((((hOm.ext Eb21).ext Eb22).ext Eb23).ext E1).ext E2).ne Es4 (fun h => nb5 _ h rfl)) hnb hnt hsep (.inl hZb50) zt1 zo2)
 ·
  have hf : fitB m s2 ix = false := fit_not hcn hn
  refine lx_value (want rfl) (mv_bool rfl) ?_
  refine lx_skip (want_if (j := 2) (d := 19) (x := true) (y := false) rfl rfl (by decide) rfl) ?_
  refine lx_skip (want_if (j := 2) (d := 19) (x := true) (y := false) rfl rfl (by decide) rfl) ?_
  refine lx_skip (want_if (j := 2) (d := 19) (x := true) (y := false) rfl rfl (by decide) rfl) ?_
  refine lx_skip (want_if (j := 2) (d := 19) (x := true) (y := false) rfl rfl (by decide) rfl) ?_
  refine lx_skip (want_if (j := 2) (d := 19) (x := true) (y := false) rfl rfl (by decide) rfl) ?_
  refine lx_value (want rfl) (pick_f rfl rfl) ?_
  refine lx_value (want rfl) (as_bool rfl) ?_
  refine lx_nil ?_
  refine wk_cond_f rfl ?_
  refine wk_seq ?_
  refine wk_region ?_
  refine lx_value (want rfl) (mv_pointer rfl) ?_
  refine lx_value (want rfl) (rn_neqP Tryz.underlying194 rfl rfl) ?_
  refine lx_b_f (hn) ?_
  refine lx_value (want rfl) (mv_bool rfl) ?_
  refine lx_skip (want_if (j := 2) (d := 32) (x := true) (y := false) rfl rfl (by decide) rfl) ?_
  refine lx_skip (want_if (j := 2) (d := 32) (x := true) (y := false) rfl rfl (by decide) rfl) ?_
  refine lx_skip (want_if (j := 2) (d := 32) (x := true) (y := false) rfl rfl (by decide) rfl) ?_
  refine lx_skip (want_if (j := 2) (d := 32) (x := true) (y := false) rfl rfl (by decide) rfl) ?_
  refine lx_skip (want_if (j := 2) (d := 32) (x := true) (y := false) rfl rfl (by decide) rfl) ?_
  refine lx_value (want rfl) (pick_f rfl rfl) ?_
  refine lx_value (want rfl) (as_bool rfl) ?_
  refine lx_nil ?_
  refine wk_cond_f rfl ?_
  refine wk_seq ?_
  refine wk_region ?_
  refine lx_value (want rfl) (mv_pointer rfl) ?_
  refine lx_value (want rfl) (rn_neqP Tryz.underlying194 rfl rfl) ?_
  refine lx_b_f (hn) ?_
  refine lx_value (want rfl) (as_bool rfl) ?_
  refine lx_nil ?_
  refine wk_cond_f rfl ?_
  refine wk_seq ?_
  refine wk_region ?_
  refine lx_value (want rfl) (rn_loadBlk ag_36 sz_36 rfl (((B21.ext Eb22).ext Eb23).ext E1) rfl rfl) ?_
  refine lx_call (want rfl) (ent_func cf_139 (argsC (t_agg rfl) args0)) (isbad_ct _ _ w4) ?_
  rintro _ w5 E7 rfl
  have F14 := F4.ext E7
  have hz7 := E7.size
  refine lx_split (fun h5 => ?_) (fun h5 => ?_)
  ·
   have h5 := of_decide_eq_true h5
   refine lx_value (want rfl) (as_bool rfl) ?_
   refine lx_nil ?_
   refine wk_cond_t rfl ?_
   refine wk_seq ?_
   refine wk_region ?_
   refine lx_value (want rfl) (rn_loadBlk ag_36 sz_36 rfl ((((B21.ext Eb22).ext Eb23).ext E1).ext E7) rfl rfl) ?_
   refine lx_set (want rfl) sz_36 rfl (t_agg rfl) rfl rfl rfl ((B23.ext E1).ext E7) (Nat.le_of_ble_eq_true rfl) ?_
   intro w6 Es5 Bs5
   have F15 := F14.set Es5 (by omega)
   have hzs5 := Es5.size
   refine lx_value (want rfl) (as_int rfl) ?_
   refine lx_nil ?_
   refine wk_ret ?_
   refine retR2 Tryz.results117 (.cell rfl (run_loadVar_blk ag_36 sz_36 Bs5 rfl rfl)) (.tmp (t_int rfl)) F15 ?_
   exact outx_old (rdX_s hf h5) rfl (mo_mk hT ((((((hBm.ext Eb21).ext Eb22).ext Eb23).ext E1).ext E7).ne Es5 (by omega)) rfl rfl rfl ((((((hTm.ext Eb21).ext Eb22).ext Eb23).ext E1).ext E7).fr Es5 (fun k hk h => nb6 k hk h)) ((((((hOm.ext Eb21).ext Eb22).ext Eb23).ext E1).ext E7).ne Es5 (fun h => nb5 _ h rfl)) hnb hnt hsep (.inl hZb50) zt1 zo2)
  ·
   have h5 := of_decide_eq_false h5
   refine lx_value (want rfl) (as_bool rfl) ?_
   refine lx_nil ?_
   refine wk_cond_f rfl ?_
   refine wk_seq ?_
   refine wk_region ?_
   refine lx_value (want rfl) (rn_loadBlk ag_36 sz_36 rfl (((B22.ext Eb23).ext E1).ext E7) rfl rfl) ?_
   refine lx_call (want rfl) (ent_func cf_139 (argsC (t_agg rfl) args0)) (isbad_ct _ _ w5) ?_
   rintro _ w6 E8 rfl
   have F16 := F14.ext E8
   have hz8 := E8.size
   refine lx_split (fun hi5 => ?_) (fun hi5 => ?_)
   ·
    have hi5 := of_decide_eq_true hi5
    refine lx_value (want rfl) (as_bool rfl) ?_
    refine lx_nil ?_
    refine wk_cond_t rfl ?_
    refine wk_seq ?_
    refine wk_region ?_
    refine lx_value (want rfl) (rn_loadBlk ag_36 sz_36 rfl ((((B22.ext Eb23).ext E1).ext E7).ext E8) rfl rfl) ?_
    refine lx_set (want rfl) sz_36 rfl (t_agg rfl) rfl rfl rfl (((B23.ext E1).ext E7).ext E8) (Nat.le_of_ble_eq_true rfl) ?_
    intro w7 Es6 Bs6
    have F17 := F16.set Es6 (by omega)
    have hzs6 := Es6.size
    refine lx_value (want rfl) (as_int rfl) ?_
    refine lx_nil ?_
    refine wk_ret ?_
    refine retR2 Tryz.results117 (.cell rfl (run_loadVar_blk ag_36 sz_36 Bs6 rfl rfl)) (.tmp (t_int rfl)) F17 ?_
    exact outx_old (rdX_ix hf h5 hi5) rfl (mo_mk hT (((((((hBm.ext Eb21).ext Eb22).ext Eb23).ext E1).ext E7).ext E8).ne Es6 (by omega)) rfl rfl rfl (((((((hTm.ext Eb21).ext Eb22).ext Eb23).ext E1).ext E7).ext E8).fr Es6 (fun k hk h => nb6 k hk h)) (((((((hOm.ext Eb21).ext Eb22).ext Eb23).ext E1).ext E7).ext E8).ne Es6 (fun h => nb5 _ h rfl)) hnb hnt hsep (.inl hZb50) zt1 zo2)
   ·
    have hi5 := of_decide_eq_false hi5
    refine lx_value (want rfl) (as_bool rfl) ?_
    refine lx_nil ?_
    refine wk_cond_f rfl ?_
    refine wk_seq ?_
    refine wk_seq ?_
    refine wk_region ?_
    refine lx_value (want rfl) (rn_fieldAddr fa_36_0 rfl) ?_
    refine lx_value (want rfl) (rn_load1Blk ag_5 rfl (((((B21.ext Eb22).ext Eb23).ext E1).ext E7).ext E8) rfl) ?_
    refine lx_value (want rfl) (rn_eql rfl rfl) ?_
    refine lx_dec (fun h3 => ?_) (fun h3 => ?_)
    ·
     refine lx_value (want rfl) (as_bool rfl) ?_
     refine lx_nil ?_
     refine wk_cond_t rfl ?_
     refine wk_skip ?_
     refine wk_cond_t rfl ?_
     refine wk_seq ?_
     refine wk_region ?_
     refine lx_call (want rfl) (ent_func cf_141 (argsC (t_int rfl) args0)) (bad_ct _ w6) ?_
     rintro _ w7 E9 rfl
     have F18 := F16.ext E9
     have hz9 := E9.size
     refine lx_set (want rfl) sz_36 rfl (t_agg rfl) rfl rfl rfl ((((B23.ext E1).ext E7).ext E8).ext E9) (Nat.le_of_ble_eq_true rfl) ?_
     intro w8 Es7 Bs7
     have F19 := F18.set Es7 (by omega)
     have hzs7 := Es7.size
     refine lx_value (want rfl) (as_int rfl) ?_
     refine lx_nil ?_
     refine wk_ret ?_
     refine retR2 Tryz.results117 (.cell rfl (run_loadVar_blk ag_36 sz_36 Bs7 rfl rfl)) (.tmp (t_int rfl)) F19 ?_
     exact outx_old (rdX_3 hf h5 hi5 (.inl h3)) rfl (mo_mk hT ((((((((hBm.ext Eb21).ext Eb22).ext Eb23).ext E1).ext E7).ext E8).ext E9).ne Es7 (by omega)) rfl rfl rfl ((((((((hTm.ext Eb21).ext Eb22).ext Eb23).ext E1).ext E7).ext E8).ext E9).fr Es7 (fun k hk h => nb6 k hk h)) ((((((((hOm.ext Eb21).ext Eb22).ext Eb23).ext E1).ext E7).ext E8).ext E9).ne Es7 (fun h => nb5 _ h rfl)) hnb hnt hsep (.inl hZb50) zt1 zo2)
    ·
     refine lx_value (want rfl) (as_bool rfl) ?_
     refine lx_nil ?_
     refine wk_cond_f rfl ?_
     refine wk_region ?_
     refine lx_value (want rfl) (rn_fieldAddr fa_36_0 rfl) ?_
     refine lx_value (want rfl) (rn_load1Blk ag_5 rfl (((((B21.ext Eb22).ext Eb23).ext E1).ext E7).ext E8) rfl) ?_
     refine lx_value (want rfl) (rn_eql rfl rfl) ?_
     refine lx_dec (fun h4 => ?_) (fun h4 => ?_)
     ·
      refine lx_value (want rfl) (mv_bool rfl) ?_
      refine lx_value (want_if (j := 3) (d := 86) (x := true) (y := true) rfl rfl (by decide) rfl) (rn_fieldAddr fa_36_0 rfl) ?_
      refine lx_value (want_if (j := 3) (d := 86) (x := true) (y := true) rfl rfl (by decide) rfl) (rn_load1Blk ag_5 rfl ((((B22.ext Eb23).ext E1).ext E7).ext E8) rfl) ?_
      refine lx_value (want_if (j := 3) (d := 86) (x := true) (y := true) rfl rfl (by decide) rfl) (rn_eql rfl rfl) ?_
      refine lx_dec (fun h1 => ?_) (fun h1 => ?_)
      ·
       refine lx_value (want rfl) (pick_t rfl rfl) ?_
       refine lx_value (want rfl) (as_bool rfl) ?_
       refine lx_nil ?_
       refine wk_cond_t rfl ?_
       refine wk_seq ?_
       refine wk_region ?_
       refine lx_call (want rfl) (ent_func cf_141 (argsC (t_int rfl) args0)) (bad_ct _ w6) ?_
       rintro _ w7 E10 rfl
       have F20 := F16.ext E10
       have hz10 := E10.size
       refine lx_set (want rfl) sz_36 rfl (t_agg rfl) rfl rfl rfl ((((B23.ext E1).ext E7).ext E8).ext E10) (Nat.le_of_ble_eq_true rfl) ?_
       intro w8 Es8 Bs8
       have F21 := F20.set Es8 (by omega)
       have hzs8 := Es8.size
       refine lx_value (want rfl) (as_int rfl) ?_
       refine lx_nil ?_
       refine wk_ret ?_
       refine retR2 Tryz.results117 (.cell rfl (run_loadVar_blk ag_36 sz_36 Bs8 rfl rfl)) (.tmp (t_int rfl)) F21 ?_
       exact outx_old (rdX_3 hf h5 hi5 (.inr ⟨h4, h1⟩)) rfl (mo_mk hT ((((((((hBm.ext Eb21).ext Eb22).ext Eb23).ext E1).ext E7).ext E8).ext E10).ne Es8 (by omega)) rfl rfl rfl ((((((((hTm.ext Eb21).ext Eb22).ext Eb23).ext E1).ext E7).ext E8).ext E10).fr Es8 (fun k hk h => nb6 k hk h)) ((((((((hOm.ext Eb21).ext Eb22).ext Eb23).ext E1).ext E7).ext E8).ext E10).ne Es8 (fun h => nb5 _ h rfl)) hnb hnt hsep (.inl hZb50) zt1 zo2)
      ·
       refine lx_value (want rfl) (pick_t rfl rfl) ?_
       refine lx_value (want rfl) (as_bool rfl) ?_
       refine lx_nil ?_
       refine wk_cond_f rfl ?_
       refine wk_skip ?_
       refine wk_seq ?_
       refine wk_region ?_
       refine lx_call (want rfl) (ent_func cf_141 (argsC (t_int rfl) args0)) (bad_ct _ w6) ?_
       rintro _ w7 E11 rfl
       have F22 := F16.ext E11
       have hz11 := E11.size
       refine lx_set (want rfl) sz_36 rfl (t_agg rfl) rfl rfl rfl ((((B23.ext E1).ext E7).ext E8).ext E11) (Nat.le_of_ble_eq_true rfl) ?_
       intro w8 Es9 Bs9
       have F23 := F22.set Es9 (by omega)
       have hzs9 := Es9.size
       refine lx_value (want rfl) (as_int rfl) ?_
       refine lx_nil ?_
       refine wk_ret ?_
       refine retR2 Tryz.results117 (.cell rfl (run_loadVar_blk ag_36 sz_36 Bs9 rfl rfl)) (.tmp (t_int rfl)) F23 ?_
       exact outx_old (rdX_5 hf h5 hi5 (fun g => g.elim h3 (fun g => h1 g.2))) rfl (mo_mk hT ((((((((hBm.ext Eb21).ext Eb22).ext Eb23).ext E1).ext E7).ext E8).ext E11).ne Es9 (by omega)) rfl rfl rfl ((((((((hTm.ext Eb21).ext Eb22).ext Eb23).ext E1).ext E7).ext E8).ext E11).fr Es9 (fun k hk h => nb6 k hk h)) ((((((((hOm.ext Eb21).ext Eb22).ext Eb23).ext E1).ext E7).ext E8).ext E11).ne Es9 (fun h => nb5 _ h rfl)) hnb hnt hsep (.inl hZb50) zt1 zo2)
     ·
      refine lx_value (want rfl) (mv_bool rfl) ?_
      refine lx_skip (want_if (j := 3) (d := 86) (x := true) (y := false) rfl rfl (by decide) rfl) ?_
      refine lx_skip (want_if (j := 3) (d := 86) (x := true) (y := false) rfl rfl (by decide) rfl) ?_
      refine lx_skip (want_if (j := 3) (d := 86) (x := true) (y := false) rfl rfl (by decide) rfl) ?_
      refine lx_value (want rfl) (pick_f rfl rfl) ?_
      refine lx_value (want rfl) (as_bool rfl) ?_
      refine lx_nil ?_
      refine wk_cond_f rfl ?_
      refine wk_skip ?_
      refine wk_seq ?_
      refine wk_region ?_
      refine lx_call (want rfl) (ent_func cf_141 (argsC (t_int rfl) args0)) (bad_ct _ w6) ?_
      rintro _ w7 E12 rfl
      have F24 := F16.ext E12
      have hz12 := E12.size
      refine lx_set (want rfl) sz_36 rfl (t_agg rfl) rfl rfl rfl ((((B23.ext E1).ext E7).ext E8).ext E12) (Nat.le_of_ble_eq_true rfl) ?_
      intro w8 Es10 Bs10
      have F25 := F24.set Es10 (by omega)
      have hzs10 := Es10.size
      refine lx_value (want rfl) (as_int rfl) ?_
      refine lx_nil ?_
      refine wk_ret ?_
      refine retR2 Tryz.results117 (.cell rfl (run_loadVar_blk ag_36 sz_36 Bs10 rfl rfl)) (.tmp (t_int rfl)) F25 ?_
      exact outx_old (rdX_5 hf h5 hi5 (fun g => g.elim h3 (fun g => h4 g.1))) rfl (mo_mk hT ((((((((hBm.ext Eb21).ext Eb22).ext Eb23).ext E1).ext E7).ext E8).ext E12).ne Es10 (by omega)) rfl rfl rfl ((((((((hTm.ext Eb21).ext Eb22).ext Eb23).ext E1).ext E7).ext E8).ext E12).fr Es10 (fun k hk h => nb6 k hk h)) ((((((((hOm.ext Eb21).ext Eb22).ext Eb23).ext E1).ext E7).ext E8).ext E12).ne Es10 (fun h => nb5 _ h rfl)) hnb hnt hsep (.inl hZb50) zt1 zo2)

set_option maxHeartbeats 2000000 in
set_option maxRecDepth 100000 in
theorem showvalue_ct (Z : Nat → Prop) (b : Nat) (bs : List UInt8) (A : List (List Vl)) (ck : Nat) (sk : Option Addr) (G : Nat → Prop) (Ok : Vl → Prop) (T : World → Prop) (hS : ShowOk Tryz.prog A Ok G T) (d : Nat) (hd12 : d ≤ 12) (v : Vl) (hGZ : ∀ k, G k → ¬ Z k) (hOk : Ok v) (hbd : bs.length ≤ 9000) (hvals : ∀ dq, d = dq + 1 → ValsP Tryz.prog A b sk ck G Ok T dq) (w0 : World) (hGl : ∀ k, G k → k < w0.heap.size) (hM : SH Z w0 b bs sk A.length ck) (hk : VvS G w0 sk A) (hTw : T w0) :
  CT Tryz.prog 144 [.pointer (some ⟨b, 0, none⟩), .agg #[.int .u8 v.1, .int .i64 v.2], .int .i64 (d : Nat)] w0 Z (fun _ w => OutS Z w0.heap.size b w sk A.length ck (QV A bs d v)) := by
 have hZt1 : ∀ k, zz zn Z k → Z k := fun k h => h
 have hZb := hM.in
 have hlb := hM.lt hZb
 obtain ⟨⟨hv4, hv5a⟩, hIt⟩ := hS.ok v hOk
 have F0 := Fr.refl Z w0
 have zt1 : ∀ k, zz zn Z k → Z k ∨ w0.heap.size ≤ k := fun k h => .inl (hZt1 k h)
 refine ct_body Tryz.func144 rfl Tryz.ntmps144 (Nat.le_of_ble_eq_true rfl) ?_
 refine wk_seq ?_
 refine wk_region ?_
 refine lx_new (want rfl) (rn_box (t_agg rfl)) ?_
 intro b1 w1 hb1 Eb1 B1 hlb1
 have F1 := F0.ext Eb1
 have hzb1 := Eb1.size
 have nb1 : ∀ k, zz zn Z k → k ≠ b1 := fun k hk => by have := (hM).lt hk; omega
 refine lx_nil ?_
 refine wk_block ?_
 refine wk_seq ?_
 refine wk_region ?_
 refine lx_value (want rfl) (rn_fieldAddr fa_36_0 rfl) ?_
 refine lx_value (want rfl) (rn_load1Blk ag_5 rfl B1 rfl) ?_
 refine lx_value (want rfl) (rn_eql rfl rfl) ?_
 refine lx_dec (fun h1 => ?_) (fun h1 => ?_)
 ·
  refine lx_value (want rfl) (as_bool rfl) ?_
  refine lx_nil ?_
  refine wk_cond_t rfl ?_
  refine wk_mix 6 (fun kS => match kS with | 5 => .val (.string ⟨(decB v.2).toArray⟩) | _ => .none) (by kernel_rfl) (by kernel_rfl) (by intro kS G hk; (try dsimp only at hk); (split at hk) <;> first | (cases hk; done) | (injection hk with hk; subst hk; exact ⟨by intro j hkj I v w w' hR hG; first | exact hG, fun ⟨_, _, _, _, hs⟩ => by (try dsimp only at hs); split at hs <;> cases hs⟩)) (by intro kS s y G hk; (try dsimp only at hk); split at hk <;> cases hk) ?_
  simp only [List.take_succ_cons, List.take_zero, List.take_nil, List.drop_succ_cons, List.drop_zero, List.drop_nil]
  refine mx_calm rfl (want rfl) (fun u1 eu1 fu1 => mv_pointer rfl) ?_
  refine mx_calm rfl (want rfl) (fun u2 eu2 fu2 => rn_nilCheck rfl) ?_
  refine mx_calm rfl (want rfl) (fun u3 eu3 fu3 => rn_fieldAddr fa_149_0 rfl) ?_
  refine mx_calm rfl (want rfl) (fun u4 eu4 fu4 => rn_fieldAddr fa_36_1 rfl) ?_
  refine mx_calm rfl (want rfl) (fun u5 eu5 fu5 => rn_load1Blk ag_3 rfl (B1.ext ((ext_drawn _).trans' eu5)) rfl) ?_
  refine mx_val rfl (want rfl) (fun u6 eu6 fu6 => do_call (ent_func cf_156 (argsC (t_int rfl) args0)) (hIt h1 u6 (hS.st (F1.ext ((ext_drawn _).trans' eu6)) hGZ hTw)) (fun _ _ E h => ⟨E, h⟩)) ?_
  refine mx_nil (fun w2 E1' H1 HS => ?_)
  have E1 := (ext_drawn _).trans' E1'
  have F2 := F1.ext E1
  have hz1 := E1.size
  refine lx_call (want rfl) (ent_func cf_143 (argsC (t_pointer rfl) (argsC (t_string rfl) args0))) (writestr_ct Z b bs sk A.length ck ⟨(decB v.2).toArray⟩ (by have := decB_len v.2; have h8 := str_sz (⟨(decB v.2).toArray⟩ : ByteArray) (n := 21) this; omega) w2 ((hM.ext Eb1).ext E1)) ?_
  rintro _ w3 E2 ⟨Z2, hM2, hi2⟩
  have F3 := F2.new' E2 (fun k h => zt1 k h)
  have hz2 := E2.size
  have tg1 : ∀ k, zz zn Z2 k → Z k ∨ w0.heap.size ≤ k := fun k hk => (hi2 k hk).elim (zt1 k) (fun h => .inr (by omega))
  have tn1_1 : ∀ k, zz zn Z2 k → k ≠ b1 := fun k hk => (hi2 k hk).elim (nb1 k) (fun h => by have := (B1).lt; omega)
  refine lx_nil ?_
  (try simp only [thenK, blockK, if_true])
  refine retN ?_
  refine ret0 Tryz.results144 F3 ?_
  exact out_v hM2 tg1 (Nat.le_refl _) (txV_1 h1).symm (Nat.le_trans (decB_len v.2) (by decide))
 ·
  refine lx_value (want rfl) (as_bool rfl) ?_
  refine lx_nil ?_
  refine wk_cond_f rfl ?_
  refine wk_seq ?_
  refine wk_region ?_
  refine lx_value (want rfl) (rn_fieldAddr fa_36_0 rfl) ?_
  refine lx_value (want rfl) (rn_load1Blk ag_5 rfl B1 rfl) ?_
  refine lx_value (want rfl) (rn_eql rfl rfl) ?_
  refine lx_dec (fun h2 => ?_) (fun h2 => ?_)
  ·
   refine lx_value (want rfl) (as_bool rfl) ?_
   refine lx_nil ?_
   refine wk_cond_t rfl ?_
   refine wk_mix 7 (fun kS => match kS with | 6 => .val (.string (if decide (v.2 = 1) = true then ⟨#[116, 114, 117, 101]⟩ else ⟨#[102, 97, 108, 115, 101]⟩ : ByteArray)) | _ => .none) (by kernel_rfl) (by kernel_rfl) (by intro kS G hk; (try dsimp only at hk); (split at hk) <;> first | (cases hk; done) | (injection hk with hk; subst hk; exact ⟨by intro j hkj I v w w' hR hG; first | exact hG, fun ⟨_, _, _, _, hs⟩ => by (try dsimp only at hs); split at hs <;> cases hs⟩)) (by intro kS s y G hk; (try dsimp only at hk); split at hk <;> cases hk) ?_
   simp only [List.take_succ_cons, List.take_zero, List.take_nil, List.drop_succ_cons, List.drop_zero, List.drop_nil]
   refine mx_calm rfl (want rfl) (fun u7 eu7 fu7 => mv_pointer rfl) ?_
   refine mx_calm rfl (want rfl) (fun u8 eu8 fu8 => rn_nilCheck rfl) ?_
   refine mx_calm rfl (want rfl) (fun u9 eu9 fu9 => rn_fieldAddr fa_149_0 rfl) ?_
   refine mx_calm rfl (want rfl) (fun u10 eu10 fu10 => rn_fieldAddr fa_36_1 rfl) ?_
   refine mx_calm rfl (want rfl) (fun u11 eu11 fu11 => rn_load1Blk ag_3 rfl (B1.ext ((ext_drawn _).trans' eu11)) rfl) ?_
   refine mx_calm rfl (want rfl) (fun u12 eu12 fu12 => rn_eql rfl rfl) ?_
   refine mx_val rfl (want rfl) (fun u13 eu13 fu13 => do_call (ent_func cf_157 (argsC (t_bool rfl) args0)) (fbool_ct _ u13) (fun _ _ E h => ⟨E, h⟩)) ?_
   refine mx_nil (fun w2 E3' H2 HS => ?_)
   have E3 := (ext_drawn _).trans' E3'
   have F4 := F1.ext E3
   have hz3 := E3.size
   refine lx_call (want rfl) (ent_func cf_143 (argsC (t_pointer rfl) (argsC (t_string rfl) args0))) (writestr_ct Z b bs sk A.length ck (if decide (v.2 = 1) = true then ⟨#[116, 114, 117, 101]⟩ else ⟨#[102, 97, 108, 115, 101]⟩ : ByteArray) (by have h8 := str_sz _ (tx_bool_len (decide (v.2 = 1))); omega) w2 ((hM.ext Eb1).ext E3)) ?_
   rintro _ w3 E4 ⟨Z2, hM2, hi2⟩
   have F5 := F4.new' E4 (fun k h => zt1 k h)
   have hz4 := E4.size
   have tg2 : ∀ k, zz zn Z2 k → Z k ∨ w0.heap.size ≤ k := fun k hk => (hi2 k hk).elim (zt1 k) (fun h => .inr (by omega))
   have tn2_1 : ∀ k, zz zn Z2 k → k ≠ b1 := fun k hk => (hi2 k hk).elim (nb1 k) (fun h => by have := (B1).lt; omega)
   refine lx_nil ?_
   (try simp only [thenK, blockK, if_true])
   refine retN ?_
   refine ret0 Tryz.results144 F5 ?_
   exact out_v hM2 tg2 (Nat.le_refl _) (tx_bool h2) (tx_bool_len _)
  ·
   refine lx_value (want rfl) (as_bool rfl) ?_
   refine lx_nil ?_
   refine wk_cond_f rfl ?_
   refine wk_seq ?_
   refine wk_region ?_
   refine lx_value (want rfl) (rn_fieldAddr fa_36_0 rfl) ?_
   refine lx_value (want rfl) (rn_load1Blk ag_5 rfl B1 rfl) ?_
   refine lx_value (want rfl) (rn_eql rfl rfl) ?_
   refine lx_dec (fun h3 => ?_) (fun h3 => ?_)
   ·
    refine lx_value (want rfl) (as_bool rfl) ?_
    refine lx_nil ?_
    refine wk_cond_t rfl ?_
    refine wk_region ?_
    refine lx_value (want rfl) (mv_pointer rfl) ?_
    refine lx_value (want rfl) (rn_nilCheck rfl) ?_
    refine lx_value (want rfl) (rn_fieldAddr fa_149_0 rfl) ?_
    refine lx_call (want rfl) (ent_func cf_143 (argsC (t_pointer rfl) (argsC (t_string rfl) args0))) (writestr_ct Z b bs sk A.length ck ⟨#[110, 105, 108]⟩ (by have : (⟨#[110, 105, 108]⟩ : ByteArray).size = 3 := rfl; omega) w1 (hM.ext Eb1)) ?_
    rintro _ w2 E5 ⟨Z2, hM2, hi2⟩
    have F6 := F1.new' E5 (fun k h => zt1 k h)
    have hz5 := E5.size
    have tg3 : ∀ k, zz zn Z2 k → Z k ∨ w0.heap.size ≤ k := fun k hk => (hi2 k hk).elim (zt1 k) (fun h => .inr (by omega))
    have tn3_1 : ∀ k, zz zn Z2 k → k ≠ b1 := fun k hk => (hi2 k hk).elim (nb1 k) (fun h => by have := (B1).lt; omega)
    refine lx_nil ?_
    (try simp only [thenK, blockK, if_true])
    refine retN ?_
    refine ret0 Tryz.results144 F6 ?_
    exact out_v hM2 tg3 (Nat.le_refl _) (txV_3 h3).symm (by decide)
   ·
    refine lx_value (want rfl) (as_bool rfl) ?_
    refine lx_nil ?_
    refine wk_cond_f rfl ?_
    refine wk_seq ?_
    refine wk_region ?_
    refine lx_value (want rfl) (rn_fieldAddr fa_36_0 rfl) ?_
    refine lx_value (want rfl) (rn_load1Blk ag_5 rfl B1 rfl) ?_
    refine lx_value (want rfl) (rn_eql rfl rfl) ?_
    refine lx_dec (fun h5 => ?_) (fun h5 => ?_)
    ·
     have hv5 := hv5a h5
     refine lx_value (want rfl) (as_bool rfl) ?_
     refine lx_nil ?_
     refine wk_cond_t rfl ?_
     refine wk_mix 7 (fun _ => .none) (by kernel_rfl) (by kernel_rfl) (fun kS G hk => by cases hk) (fun kS s y G hk => by cases hk) ?_
     simp only [List.take_succ_cons, List.take_zero, List.take_nil, List.drop_succ_cons, List.drop_zero, List.drop_nil]
     refine mx_calm rfl (want rfl) (fun u14 eu14 fu14 => mv_pointer rfl) ?_
     refine mx_calm rfl (want rfl) (fun u15 eu15 fu15 => rn_nilCheck rfl) ?_
     refine mx_calm rfl (want rfl) (fun u16 eu16 fu16 => rn_fieldAddr fa_149_0 rfl) ?_
     refine mx_calm (v := .agg (badV.map Value.string).toArray) rfl (want rfl) (fun u17 eu17 fu17 => ⟨fun _ h => (by cases h), by kernel_rfl⟩) ?_
     refine mx_calm rfl (want rfl) (fun u18 eu18 fu18 => rn_fieldAddr fa_36_1 rfl) ?_
     refine mx_calm rfl (want rfl) (fun u19 eu19 fu19 => rn_load1Blk ag_3 rfl (B1.ext ((ext_drawn _).trans' eu19)) rfl) ?_
     refine mx_calm rfl (want rfl) (fun u20 eu20 fu20 => rn_badAt Tryz.underlying199 sz_9 ag_9 rfl rfl hv5) ?_
     refine mx_nil (fun w2 E6' H3 HS => ?_)
     have E6 := (ext_drawn _).trans' E6'
     have F7 := F1.ext E6
     have hz6 := E6.size
     refine lx_call (want rfl) (ent_func cf_143 (argsC (t_pointer rfl) (argsC (t_string rfl) args0))) (writestr_ct Z b bs sk A.length ck (badV.getD v.2.toNat ⟨#[]⟩) (by have h8 := badT_len v.2; rw [← badV_at hv5] at h8; have h9 := str_sz (badV.getD v.2.toNat ⟨#[]⟩) h8; omega) w2 ((hM.ext Eb1).ext E6)) ?_
     rintro _ w3 E7 ⟨Z2, hM2, hi2⟩
     have F8 := F7.new' E7 (fun k h => zt1 k h)
     have hz7 := E7.size
     have tg4 : ∀ k, zz zn Z2 k → Z k ∨ w0.heap.size ≤ k := fun k hk => (hi2 k hk).elim (zt1 k) (fun h => .inr (by omega))
     have tn4_1 : ∀ k, zz zn Z2 k → k ≠ b1 := fun k hk => (hi2 k hk).elim (nb1 k) (fun h => by have := (B1).lt; omega)
     refine lx_nil ?_
     (try simp only [thenK, blockK, if_true])
     refine retN ?_
     refine ret0 Tryz.results144 F8 ?_
     exact out_v hM2 tg4 (Nat.le_refl _) ((badV_at hv5).trans (txV_5 h5).symm) (by rw [badV_at hv5]; exact Nat.le_trans (badT_len _) (by decide))
    ·
     refine lx_value (want rfl) (as_bool rfl) ?_
     refine lx_nil ?_
     refine wk_cond_f rfl ?_
     refine wk_seq ?_
     refine wk_region ?_
     refine lx_value (want rfl) (rn_fieldAddr fa_36_0 rfl) ?_
     refine lx_value (want rfl) (rn_load1Blk ag_5 rfl B1 rfl) ?_
     refine lx_value (want rfl) (rn_eql rfl rfl) ?_
     refine lx_dec (fun h4 => ?_) (fun h4 => ?_)
     ·
      obtain ⟨hn0, hnl⟩ := hv4 h4
      obtain ⟨xl, hxl⟩ : ∃ y, A[num v]? = some y := ⟨_, List.getElem?_eq_getElem hnl⟩
      obtain ⟨bx, ox, hsx, hGb, sx, cx, hcx, hpx⟩ := hk _ xl hxl
      have hxa : cellsAt A (num v) = xl := by unfold cellsAt; rw [List.getD_eq_getElem?_getD, hxl]; rfl
      obtain ⟨hxlen, hxok⟩ := hS.cells xl (List.mem_of_getElem? hxl)
      refine lx_value (want rfl) (mv_bool rfl) ?_
      refine lx_value (want_if (j := 3) (d := 57) (x := true) (y := true) rfl rfl (by decide) rfl) (mv_int rfl) ?_
      refine lx_value (want_if (j := 3) (d := 57) (x := true) (y := true) rfl rfl (by decide) rfl) (rn_eql rfl rfl) ?_
      refine lx_dec (fun h0 => ?_) (fun h0 => ?_)
      ·
       obtain rfl : d = 0 := by omega
       refine lx_value (want rfl) (pick_t rfl rfl) ?_
       refine lx_value (want rfl) (as_bool rfl) ?_
       refine lx_nil ?_
       refine wk_cond_t rfl ?_
       refine wk_region ?_
       refine lx_value (want rfl) (mv_pointer rfl) ?_
       refine lx_value (want rfl) (rn_nilCheck rfl) ?_
       refine lx_value (want rfl) (rn_fieldAddr fa_149_0 rfl) ?_
       refine lx_call (want rfl) (ent_func cf_143 (argsC (t_pointer rfl) (argsC (t_string rfl) args0))) (writestr_ct Z b bs sk A.length ck ⟨#[46, 46]⟩ (by have : (⟨#[46, 46]⟩ : ByteArray).size = 2 := rfl; omega) w1 (hM.ext Eb1)) ?_
       rintro _ w2 E8 ⟨Z2, hM2, hi2⟩
       have F9 := F1.new' E8 (fun k h => zt1 k h)
       have hz8 := E8.size
       have tg5 : ∀ k, zz zn Z2 k → Z k ∨ w0.heap.size ≤ k := fun k hk => (hi2 k hk).elim (zt1 k) (fun h => .inr (by omega))
       have tn5_1 : ∀ k, zz zn Z2 k → k ≠ b1 := fun k hk => (hi2 k hk).elim (nb1 k) (fun h => by have := (B1).lt; omega)
       refine lx_nil ?_
       (try simp only [thenK, blockK, if_true])
       refine retN ?_
       refine ret0 Tryz.results144 F9 ?_
       exact out_v hM2 tg5 (Nat.le_refl _) (txV_40 h4).symm (by decide)
      ·
       obtain ⟨dq, rfl⟩ : ∃ q, d = q + 1 := ⟨d - 1, by omega⟩
       refine lx_value (want rfl) (pick_t rfl rfl) ?_
       refine lx_value (want rfl) (as_bool rfl) ?_
       refine lx_nil ?_
       refine wk_cond_f rfl ?_
       refine wk_seq ?_
       refine wk_region ?_
       refine lx_value (want rfl) (rn_fieldAddr fa_36_0 rfl) ?_
       refine lx_value (want rfl) (rn_load1Blk ag_5 rfl B1 rfl) ?_
       refine lx_value (want rfl) (rn_eql rfl rfl) ?_
       refine lx_dec_t (h4) ?_
       refine lx_value (want rfl) (as_bool rfl) ?_
       refine lx_nil ?_
       refine wk_cond_t rfl ?_
       refine wk_seq ?_
       refine wk_region ?_
       refine lx_value (want rfl) (mv_pointer rfl) ?_
       refine lx_value (want rfl) (rn_nilCheck rfl) ?_
       refine lx_value (want rfl) (rn_fieldAddr fa_149_0 rfl) ?_
       refine lx_call (want rfl) (ent_func cf_143 (argsC (t_pointer rfl) (argsC (t_string rfl) args0))) (writestr_ct Z b bs sk A.length ck ⟨#[91]⟩ (by have : (⟨#[91]⟩ : ByteArray).size = 1 := rfl; omega) w1 (hM.ext Eb1)) ?_
       rintro _ w2 E9 ⟨Z2, hM2, hi2⟩
       have F10 := F1.new' E9 (fun k h => zt1 k h)
       have hz9 := E9.size
       have tg6 : ∀ k, zz zn Z2 k → Z k ∨ w0.heap.size ≤ k := fun k hk => (hi2 k hk).elim (zt1 k) (fun h => .inr (by omega))
       have tn6_1 : ∀ k, zz zn Z2 k → k ≠ b1 := fun k hk => (hi2 k hk).elim (nb1 k) (fun h => by have := (B1).lt; omega)
       refine lx_nil ?_
       refine wk_seq ?_
       obtain ⟨ad2, s2, c2, hB2, _⟩ := SH.parts hM2
       refine wk_mix 11 (fun _ => .none) (by kernel_rfl) (by kernel_rfl) (fun kS G hk => by cases hk) (fun kS s y G hk => by cases hk) ?_
       simp only [List.take_succ_cons, List.take_zero, List.take_nil, List.drop_succ_cons, List.drop_zero, List.drop_nil]
       refine mx_calm rfl (want rfl) (fun u21 eu21 fu21 => mv_pointer rfl) ?_
       refine mx_calm rfl (want rfl) (fun u22 eu22 fu22 => mv_pointer rfl) ?_
       refine mx_calm rfl (want rfl) (fun u23 eu23 fu23 => rn_nilCheck rfl) ?_
       refine mx_calm rfl (want rfl) (fun u24 eu24 fu24 => rn_fieldAddr fa_149_1 rfl) ?_
       refine mx_calm rfl (want rfl) (fun u25 eu25 fu25 => rn_load1 ag_43 rfl (((ext_drawn _).trans' eu25).cell (fun h => h) (hB2.cell 2 rfl))) ?_
       refine mx_calm rfl (want rfl) (fun u26 eu26 fu26 => rn_fieldAddr fa_36_1 rfl) ?_
       refine mx_calm rfl (want rfl) (fun u27 eu27 fu27 => rn_load1Blk ag_3 rfl ((B1.fr E9 (fun h => nb1 _ h rfl)).ext ((ext_drawn _).trans' eu27)) rfl) ?_
       refine mx_calm rfl (want rfl) (fun u28 eu28 fu28 => rn_index (num v) Tryz.underlying43 sz_30 ((show _ = Value.slice sk A.length ck from rfl).trans (congrArg (fun q => Value.slice q A.length ck) hsx)) rfl (by unfold num; omega) hnl) ?_
       refine mx_calm rfl (want rfl) (fun u29 eu29 fu29 => rn_load1 ag_30 rfl ((F10.ext ((ext_drawn _).trans' eu29)).cell (hGZ _ hGb) hcx)) ?_
       refine mx_calm rfl (want rfl) (fun u30 eu30 fu30 => mv_int rfl) ?_
       refine mx_calm rfl (want rfl) (fun u31 eu31 fu31 => rn_subN rfl (n := 1) rfl ⟨by omega, by omega⟩) ?_
       refine mx_nil (fun w3 E10' H4 HS => ?_)
       have E10 := (ext_drawn _).trans' E10'
       have F11 := F10.ext E10
       have hz10 := E10.size
       refine lx_call (want rfl) (ent_func cf_95 (argsC (t_pointer rfl) (argsC (t_slice rfl) (argsC (t_int rfl) args0)))) (hvals dq rfl Z2 (bs ++ [91]) xl sx cx G w3 (fun k hk h => (tg6 k h).elim (hGZ k hk) (fun h9 => by have := hGl k hk; omega)) (fun k hk => Nat.lt_of_lt_of_le (hGl k hk) F11.size) (fun k hk h => (tg6 k h).elim (hGZ k hk) (fun h9 => by have := hGl k hk; omega)) (fun k hk => Nat.lt_of_lt_of_le (hGl k hk) F11.size) hxok hxlen (by rw [List.length_append, List.length_singleton]; omega) (hM2.ext E10) (hpx.fr (vl_stab _) F11 hGZ) (hk.fr (vv_stab _) F11 hGZ) (hS.st F11 hGZ hTw)) ?_
       rintro _ w4 E11 ⟨bs2, Z3, hq2, hM3, hi3⟩
       have F12 := F11.new' E11 (fun k h => tg6 k h)
       have hz11 := E11.size
       have tg7 : ∀ k, zz zn Z3 k → Z k ∨ w0.heap.size ≤ k := fun k hk => (hi3 k hk).elim (tg6 k) (fun h => .inr (by omega))
       have tn7_1 : ∀ k, zz zn Z3 k → k ≠ b1 := fun k hk => (hi3 k hk).elim (tn6_1 k) (fun h => by have := (B1).lt; omega)
       refine lx_nil ?_
       refine wk_region ?_
       refine lx_value (want rfl) (mv_pointer rfl) ?_
       refine lx_value (want rfl) (rn_nilCheck rfl) ?_
       refine lx_value (want rfl) (rn_fieldAddr fa_149_0 rfl) ?_
       refine lx_call (want rfl) (ent_func cf_143 (argsC (t_pointer rfl) (argsC (t_string rfl) args0))) (writestr_ct Z3 b bs2 sk A.length ck ⟨#[93]⟩ (by have : (⟨#[93]⟩ : ByteArray).size = 1 := rfl; have := hq2.2.2; rw [List.length_append, List.length_singleton] at this; omega) w4 hM3) ?_
       rintro _ w5 E12 ⟨Z2, hM2, hi2⟩
       have F13 := F12.new' E12 (fun k h => tg7 k h)
       have hz12 := E12.size
       have tg8 : ∀ k, zz zn Z2 k → Z k ∨ w0.heap.size ≤ k := fun k hk => (hi2 k hk).elim (tg7 k) (fun h => .inr (by omega))
       have tn8_1 : ∀ k, zz zn Z2 k → k ≠ b1 := fun k hk => (hi2 k hk).elim (tn7_1 k) (fun h => by have := (B1).lt; omega)
       refine lx_nil ?_
       (try simp only [thenK, blockK, if_true])
       refine retN ?_
       refine ret0 Tryz.results144 F13 ?_
       exact out_r h4 hM2 tg8 (by rw [hxa]; exact hq2)
     ·
      refine lx_value (want rfl) (mv_bool rfl) ?_
      refine lx_skip (want_if (j := 3) (d := 57) (x := true) (y := false) rfl rfl (by decide) rfl) ?_
      refine lx_skip (want_if (j := 3) (d := 57) (x := true) (y := false) rfl rfl (by decide) rfl) ?_
      refine lx_value (want rfl) (pick_f rfl rfl) ?_
      refine lx_value (want rfl) (as_bool rfl) ?_
      refine lx_nil ?_
      refine wk_cond_f rfl ?_
      refine wk_seq ?_
      refine wk_region ?_
      refine lx_value (want rfl) (rn_fieldAddr fa_36_0 rfl) ?_
      refine lx_value (want rfl) (rn_load1Blk ag_5 rfl B1 rfl) ?_
      refine lx_value (want rfl) (rn_eql rfl rfl) ?_
      refine lx_dec_f (h4) ?_
      refine lx_value (want rfl) (as_bool rfl) ?_
      refine lx_nil ?_
      refine wk_cond_f rfl ?_
      refine wk_region ?_
      refine lx_value (want rfl) (mv_pointer rfl) ?_
      refine lx_value (want rfl) (rn_nilCheck rfl) ?_
      refine lx_value (want rfl) (rn_fieldAddr fa_149_0 rfl) ?_
      refine lx_call (want rfl) (ent_func cf_143 (argsC (t_pointer rfl) (argsC (t_string rfl) args0))) (writestr_ct Z b bs sk A.length ck ⟨#[63]⟩ (by have : (⟨#[63]⟩ : ByteArray).size = 1 := rfl; omega) w1 (hM.ext Eb1)) ?_
      rintro _ w2 E13 ⟨Z2, hM2, hi2⟩
      have F14 := F1.new' E13 (fun k h => zt1 k h)
      have hz13 := E13.size
      have tg9 : ∀ k, zz zn Z2 k → Z k ∨ w0.heap.size ≤ k := fun k hk => (hi2 k hk).elim (zt1 k) (fun h => .inr (by omega))
      have tn9_1 : ∀ k, zz zn Z2 k → k ≠ b1 := fun k hk => (hi2 k hk).elim (nb1 k) (fun h => by have := (B1).lt; omega)
      refine lx_nil ?_
      (try simp only [thenK, blockK, if_true])
      refine retN ?_
      refine ret0 Tryz.results144 F14 ?_
      exact out_v hM2 tg9 (Nat.le_refl _) (txV_no h1 h2 h3 h5 h4).symm (by decide)

end Go.Proofs.YtnhgfmbmfjmonaaGreatDoor

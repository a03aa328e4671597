/- What functions compute: pread, refalloc. -/
import Derived.Test.YtnhgfmbmfjmonaaGreatDoorPlaysFacts
import Derived.Test.YtnhgfmbmfjmonaaGreatDoorPlaysPre
import Derived.Test.YtnhgfmbmfjmonaaGreatDoorPlaysWalk2
import Derived.Test.YtnhgfmbmfjmonaaGreatDoorPlaysWalk3
import Derived.Test.YtnhgfmbmfjmonaaGreatDoorPlaysWalk4
import Derived.Test.YtnhgfmbmfjmonaaGreatDoorPlaysWalk5
set_option maxRecDepth 100000
set_option linter.unusedVariables false
set_option linter.unusedSimpArgs false
namespace Go.Proofs.YtnhgfmbmfjmonaaGreatDoor
open Go Go.RowKit Go.Mix Go.Eng
set_option maxRecDepth 100000 in
theorem pread_ct (Z : Nat → Prop) (b : Nat) (m : Mem) (tl : List Tl) (hok : okM m = true) (s2 ix : Vl) (hs : s2.1 = 4 → 0 ≤ s2.2 ∧ num s2 < m.length) (rd : Int) (w0 : World) (hM : MO Z w0 b m tl) :
    CT Tryz.prog 117 [.pointer (some ⟨b, 0, none⟩), .agg #[.int .u8 s2.1, .int .i64 s2.2], .agg #[.int .u8 ix.1, .int .i64 ix.2], .int .i64 rd] w0 Z (fun v w => OutX Z w0.heap.size b m tl w v (readR m s2 ix rd)) := by
  obtain ⟨sM, cM, TM, stM, ctM, hT, hBm, hTm, hOm, hnb, hnt, hsep, hZb50, hZt1, hZo2, hZl⟩ := hM
  have hTl : TM.length = m.length := by have := congrArg List.length hT; simpa using this
  have hlb := hBm.lt
  have hBl := okM_Bm hok
  have hB1 := hBl.1
  have hw6 := (okM_iff.1 hok).2.2
  have F0 := Fr.refl Z w0
  have zt1 : ∀ k, mtb sM TM k → Z k ∨ w0.heap.size ≤ k := fun k h => .inl (hZt1 k h)
  have zo2 : ∀ k, ob stM k → Z k ∨ w0.heap.size ≤ k := fun k h => .inl (hZo2 k h)
  refine ct_body Tryz.func117 rfl Tryz.ntmps117 (Nat.le_of_ble_eq_true rfl) ?_
  refine wk_seq ?_
  refine wk_region ?_
  refine lx_new (want rfl) (rn_box (t_agg rfl)) ?_
  intro b21 w1 hb21 Eb21 B21 hlb21
  have F1 := F0.ext Eb21
  have hzb21 := Eb21.size
  have nb1 : ∀ k, ob stM k → k ≠ b21 := fun k hk => by have := (hOm).lt hk; omega
  have nb2 : ∀ k, mtb sM TM k → k ≠ b21 := fun k hk => by have := (hTm).lt hk; omega
  refine lx_new (want rfl) (rn_box (t_agg rfl)) ?_
  intro b22 w2 hb22 Eb22 B22 hlb22
  have F2 := F1.ext Eb22
  have hzb22 := Eb22.size
  have nb3 : ∀ k, ob stM k → k ≠ b22 := fun k hk => by have := (hOm).lt hk; omega
  have nb4 : ∀ k, mtb sM TM k → k ≠ b22 := fun k hk => by have := (hTm).lt hk; omega
  refine lx_new (want rfl) (rn_alloc ze_36) ?_
  intro b23 w3 hb23 Eb23 B23 hlb23
  have F3 := F2.ext Eb23
  have hzb23 := Eb23.size
  have nb5 : ∀ k, ob stM k → k ≠ b23 := fun k hk => by have := (hOm).lt hk; omega
  have nb6 : ∀ k, mtb sM TM k → k ≠ b23 := fun k hk => by have := (hTm).lt hk; omega
  refine lx_value (want rfl) (as_int rfl) ?_
  refine lx_nil ?_
  refine wk_seq ?_
  refine wk_region ?_
  refine lx_value (want rfl) (mv_pointer rfl) ?_
  refine lx_value (want rfl) (rn_loadBlk ag_36 sz_36 rfl ((B21.ext Eb22).ext Eb23) rfl rfl) ?_
  refine lx_value (want rfl) (rn_loadBlk ag_36 sz_36 rfl (B22.ext Eb23) rfl rfl) ?_
  refine lx_call (want rfl) (ent_func cf_153 (argsC (t_pointer rfl) (argsC (t_agg rfl) (argsC (t_agg rfl) args0)))) (cell_ct m b sM cM TM _ stM _ ctM hBl s2 ix hs w3 (((hBm.ext Eb21).ext Eb22).ext Eb23) hT (((hTm.ext Eb21).ext Eb22).ext Eb23)) ?_
  rintro _ w4 E1 ⟨ad, rfl, hcn, hcs⟩
  have F4 := F3.ext E1
  have hz1 := E1.size
  refine lx_value (want rfl) (as_pointer rfl) ?_
  refine lx_nil ?_
  refine wk_seq ?_
  refine wk_block ?_
  refine wk_seq ?_
  refine wk_region ?_
  refine lx_value (want rfl) (mv_pointer rfl) ?_
  refine lx_value (want rfl) (rn_neqP Tryz.underlying194 rfl rfl) ?_
  refine lx_split (fun hn => ?_) (fun hn => ?_)
  ·
    have hf : fitB m s2 ix = true := fit_yes hcn hn
    obtain ⟨bA, oA, cA, sB, cB, x, hx, hsx, he, hnx, hni, rfl⟩ := hcs hf
    have hTo := ((((hTm.ext Eb21).ext Eb22).ext Eb23).ext E1)
    obtain ⟨u, hu⟩ : ∃ u, x.1[num ix]? = some u := ⟨_, List.getElem?_eq_getElem hnx⟩
    have hBx := hBl.get hx
    obtain ⟨bT, oT, hsT, hcA, hcB⟩ := hTo.get he
    subst hsT
    have hltT := (List.getElem?_eq_some_iff.1 he).1
    obtain ⟨hs0, hsl⟩ := hs (by obtain ⟨_, _, _, _, _, g4, _⟩ := fit_at hf; exact g4)
    refine lx_value (want rfl) (mv_bool rfl) ?_
    refine lx_value (want_if (j := 2) (d := 19) (x := true) (y := true) rfl rfl (by decide) rfl) (mv_pointer rfl) ?_
    refine lx_value (want_if (j := 2) (d := 19) (x := true) (y := true) rfl rfl (by decide) rfl) (rn_nilCheck rfl) ?_
    refine lx_value (want_if (j := 2) (d := 19) (x := true) (y := true) rfl rfl (by decide) rfl) (rn_load2 ag_36 sz_36 rfl (vl_cell (((((hTm.ext Eb21).ext Eb22).ext Eb23).ext E1).ownA _ _ he) hu 0 _ rfl) (vl_cell (((((hTm.ext Eb21).ext Eb22).ext Eb23).ext E1).ownA _ _ he) hu 1 _ rfl)) ?_
    refine lx_call (want_if (j := 2) (d := 19) (x := true) (y := true) rfl rfl (by decide) rfl) (ent_func cf_99 (argsC (t_agg rfl) args0)) (ishole_ct _ _ w4) ?_
    rintro _ w5 E2 rfl
    have F5 := F4.ext E2
    have hz2 := E2.size
    refine lx_split (fun h0d => ?_) (fun h0d => ?_)
    ·
      have h0d := of_decide_eq_true h0d
      refine lx_value (want_if (j := 2) (d := 19) (x := true) (y := true) rfl rfl (by decide) rfl) (rn_not rfl) ?_
      refine lx_value (want rfl) (pick_t rfl rfl) ?_
      refine lx_value (want rfl) (as_bool rfl) ?_
      refine lx_nil ?_
      refine wk_cond_f rfl ?_
      refine wk_seq ?_
      refine wk_region ?_
      refine lx_value (want rfl) (mv_pointer rfl) ?_
      refine lx_value (want rfl) (rn_neqP Tryz.underlying194 rfl rfl) ?_
      refine lx_b_t (rfl) ?_
      refine lx_value (want rfl) (mv_bool rfl) ?_
      refine lx_value (want_if (j := 2) (d := 32) (x := true) (y := true) rfl rfl (by decide) rfl) (mv_pointer rfl) ?_
      refine lx_value (want_if (j := 2) (d := 32) (x := true) (y := true) rfl rfl (by decide) rfl) (rn_nilCheck rfl) ?_
      refine lx_value (want_if (j := 2) (d := 32) (x := true) (y := true) rfl rfl (by decide) rfl) (rn_fieldAddr fa_113_1 rfl) ?_
      refine lx_value (want_if (j := 2) (d := 32) (x := true) (y := true) rfl rfl (by decide) rfl) (rn_load1Blk ag_3 rfl (((((hBm.ext Eb21).ext Eb22).ext Eb23).ext E1).ext E2) rfl) ?_
      refine lx_value (want_if (j := 2) (d := 32) (x := true) (y := true) rfl rfl (by decide) rfl) (rn_eql rfl rfl) ?_
      refine lx_dec (fun h6 => ?_) (fun h6 => ?_)
      ·
        refine lx_value (want rfl) (pick_t rfl rfl) ?_
        refine lx_value (want rfl) (as_bool rfl) ?_
        refine lx_nil ?_
        refine wk_cond_t rfl ?_
        refine wk_seq ?_
        refine wk_region ?_
        refine lx_value (want rfl) (rn_build0  (fun w => bd_36  w)) ?_
        refine lx_set (want rfl) sz_36 rfl (t_agg rfl) rfl rfl rfl ((B23.ext E1).ext E2) (Nat.le_of_ble_eq_true rfl) ?_
        intro w6 Es1 Bs1
        have F6 := F5.set Es1 (by omega)
        have hzs1 := Es1.size
        refine lx_value (want rfl) (as_int rfl) ?_
        refine lx_nil ?_
        refine wk_ret ?_
        refine retR2 Tryz.results117 (.cell rfl (run_loadVar_blk ag_36 sz_36 Bs1 rfl rfl)) (.tmp (t_int rfl)) F6 ?_
        exact outx_err (rdX_full hf hsx hu (fun g => g h0d) h6) (by decide) rfl (mo_mk hT ((((((hBm.ext Eb21).ext Eb22).ext Eb23).ext E1).ext E2).ne Es1 (by omega)) rfl rfl rfl ((((((hTm.ext Eb21).ext Eb22).ext Eb23).ext E1).ext E2).fr Es1 (fun k hk h => nb6 k hk h)) ((((((hOm.ext Eb21).ext Eb22).ext Eb23).ext E1).ext E2).ne Es1 (fun h => nb5 _ h rfl)) hnb hnt hsep (.inl hZb50) zt1 zo2)
      ·
        refine lx_value (want rfl) (pick_t rfl rfl) ?_
        refine lx_value (want rfl) (as_bool rfl) ?_
        refine lx_nil ?_
        refine wk_cond_f rfl ?_
        refine wk_seq ?_
        refine wk_region ?_
        refine lx_value (want rfl) (mv_pointer rfl) ?_
        refine lx_value (want rfl) (rn_neqP Tryz.underlying194 rfl rfl) ?_
        refine lx_b_t (rfl) ?_
        refine lx_value (want rfl) (as_bool rfl) ?_
        refine lx_nil ?_
        refine wk_cond_t rfl ?_
        refine wk_seq ?_
        refine wk_mix 6 (fun _ => .none) (by kernel_rfl) (by kernel_rfl) (fun kS G hk => by cases hk) (fun kS s y G hk => by cases hk) ?_
        simp only [List.take_succ_cons, List.take_zero, List.take_nil, List.drop_succ_cons, List.drop_zero, List.drop_nil]
        refine mx_calm rfl (want rfl) (fun u1 eu1 fu1 => mv_pointer rfl) ?_
        refine mx_calm rfl (want rfl) (fun u2 eu2 fu2 => rn_nilCheck rfl) ?_
        refine mx_calm rfl (want rfl) (fun u3 eu3 fu3 => rn_fieldAddr fa_113_0 rfl) ?_
        refine mx_calm rfl (want rfl) (fun u4 eu4 fu4 => rn_load1Blk ag_22 rfl ((((((hBm.ext Eb21).ext Eb22).ext Eb23).ext E1).ext E2).ext ((ext_drawn _).trans' eu4)) rfl) ?_
        refine mx_calm rfl (want rfl) (fun u5 eu5 fu5 => rn_fieldAddr fa_36_1 rfl) ?_
        refine mx_calm rfl (want rfl) (fun u6 eu6 fu6 => rn_load1Blk ag_3 rfl (((((B21.ext Eb22).ext Eb23).ext E1).ext E2).ext ((ext_drawn _).trans' eu6)) rfl) ?_
        refine mx_nil (fun w6 E3' H1 HS => ?_)
        have E3 := (ext_drawn _).trans' E3'
        have F7 := F5.ext E3
        have hz3 := E3.size
        refine lx_value (want rfl) (rn_index (num s2) Tryz.underlying22 sz_65 rfl rfl (by unfold num; omega) hltT) ?_
        refine lx_value (want rfl) (as_pointer rfl) ?_
        refine lx_nil ?_
        refine wk_seq ?_
        have hcB2 : _ = some (Value.slice sB x.2.length cB) := MTab.cellB ((((((hTm.ext Eb21).ext Eb22).ext Eb23).ext E1).ext E2).ext E3) he
        have hTo := ((((((hTm.ext Eb21).ext Eb22).ext Eb23).ext E1).ext E2).ext E3)
        have hOw := hTo.ownB _ _ he
        have hSl : ∀ k, (ob sB) k → k < w6.heap.size := fun k h => (((((((hTm.ext Eb21).ext Eb22).ext Eb23).ext E1).ext E2).ext E3)).lt (.inr ⟨_, _, he, .inr h⟩)
        refine wk_mixA 11 10 (ob sB) (fun kS => match kS with | 9 => .any (fun I v w => ∃ b, v = .slice (some ⟨b, 0, none⟩) 1 1 ∧ w6.heap.size ≤ b ∧ (I.1 ≤ b ∧ b < I.2) ∧ Blk w b [.int .i64 ix.2, .int .i64 rd] 115) | 10 => .any (fun I v w => ∃ s c, v = .slice s (x.2 ++ [(ix.2, rd)]).length c ∧ OwnS w 115 2 s (x.2 ++ [(ix.2, rd)]).length c ((x.2 ++ [(ix.2, rd)]).flatMap rdC) ∧ ∀ k, ob s k → (ob sB k ∨ w6.heap.size ≤ k)) | _ => .none) (by kernel_rfl) (by kernel_rfl) (by intro kS G hk; (try dsimp only at hk); (split at hk) <;> first | (cases hk; done) | (injection hk with hk; subst hk; exact ⟨by intro j hkj I v w w' hR hG; first | exact hG | (obtain ⟨b, h1, h2, hI, h3⟩ := hG; exact ⟨b, h1, h2, hI, h3.fr (mS hR) (fun hs => by have := hSl _ hs; omega)⟩) | (obtain ⟨s, c, h1, h2, h3⟩ := hG; exact ⟨s, c, h1, h2.ext (mT hkj hR), h3⟩), fun ⟨_, _, _, _, hs⟩ => by (try dsimp only at hs); split at hs <;> cases hs⟩)) (by intro kS s y G hk; (try dsimp only at hk); split at hk <;> cases hk) ?_
        simp only [List.take_succ_cons, List.take_zero, List.take_nil, List.drop_succ_cons, List.drop_zero, List.drop_nil]
        refine mx_calm rfl (want rfl) (fun u7 eu7 fu7 => mv_pointer rfl) ?_
        refine mx_calm rfl (want rfl) (fun u8 eu8 fu8 => mv_pointer rfl) ?_
        refine mx_calm rfl (want rfl) (fun u9 eu9 fu9 => rn_nilCheck rfl) ?_
        refine mx_calm rfl (want rfl) (fun u10 eu10 fu10 => rn_fieldAddr fa_65_1 rfl) ?_
        refine mx_calm rfl (want rfl) (fun u11 eu11 fu11 => rn_load1 ag_63 rfl ((mD (by decide) eu11).cell (fun h => hTo.sep _ _ he _ (.inr h) ⟨_, _, rfl⟩) hcB2)) ?_
        refine mx_calm rfl (want rfl) (fun u12 eu12 fu12 => rn_fieldAddr fa_36_1 rfl) ?_
        refine mx_calm rfl (want rfl) (fun u13 eu13 fu13 => rn_load1Blk ag_3 rfl (((((B22.ext Eb23).ext E1).ext E2).ext E3).fr (mD (by decide) eu13) (fun h => nb4 _ (.inr ⟨_, _, he, .inr h⟩) rfl)) rfl) ?_
        refine mx_calm rfl (want rfl) (fun u14 eu14 fu14 => mv_int rfl) ?_
        refine mx_calm rfl (want rfl) (fun u15 eu15 fu15 => rn_build2 (t_int rfl) (t_int rfl) (fun w => bd_115_0_1 _ _ w)) ?_
        refine mx_any rfl rfl (want rfl) (fun u16 eu16 fu16 => (do_newS2 (rn_bslice (xs := [.tmp 58]) Tryz.underlying63 sz_115 ze_115 rfl (argsC (t_agg rfl) args0) (CL.cons rfl rfl CL.nil) rfl (Nat.le_of_ble_eq_true rfl)) (show _ ≤ _ from ((mD (by decide) eu16)).size)).mono (fun v w' h => ⟨(mE (by decide) h.1), h.2⟩)) (fun I59 v59 => ?_)
        refine mx_any rfl rfl (want rfl) (fun u17 eu17 fu17 => by obtain ⟨bS, rfl, hbS, _, hBS⟩ := fu17 59 _ rfl (show (59 : Nat) ∈ _ from by decide); exact do_append 16 Tryz.underlying63 ti_115 (by decide) rfl (by decide) rfl rfl (hOw.ext (mC eu17)) (Src.blk hBS rfl rfl) (show x.2.length + 1 ≤ 1073741824 by omega) (fun sA cA wA AP => ⟨(mF AP.fr), ⟨sA, cA, by simp, by have h := AP.own; rw [List.length_append, List.flatMap_append]; exact h, fun k hk => (AP.blk k hk).elim .inl (fun h => .inr (Nat.le_trans (mC eu17).size h))⟩⟩)) (fun I60 v60 => ?_)
        refine mx_nil (fun w7 E4' H2 HS => ?_)
        have E4 := mG E4'
        have F8 := F7.new' E4 (fun k h => zt1 k (.inr ⟨_, _, he, .inr h⟩))
        have hz4 := E4.size
        have hI60 := (HS.1 60 _ rfl).2
        have hI59 := (HS.1 59 _ rfl).2
        have hX60_59 := HS.2 60 _ 59 _ rfl rfl (show (60 : Nat) ≠ 59 from by decide)
        simp only at hI60
        simp only at hI59
        simp only at hX60_59
        have g60 := H2 60 _ rfl
        obtain ⟨sq1, cq1, rfl, hO1, hI1⟩ := g60
        have g59 := H2 59 _ rfl
        refine lx_value (want rfl) (rn_nilCheck rfl) ?_
        refine lx_value (want rfl) (rn_fieldAddr fa_65_1 rfl) ?_
        refine lx_owncell (j := (num s2) * 2 + 1) (want rfl) sz_63 rfl (t_slice rfl) rfl rfl rfl (hTo.out.fr E4 (fun k h1 h2 => hTo.sep _ _ he k (.inr h2) h1)) (by have := (List.getElem?_eq_some_iff.1 he).1; omega) ?_
        intro w8 E5' HO2
        have E5 : Fr (ob (some (⟨bT, oT, none⟩ : Addr))) _ _ := E5'.mono (fun i _ hi => ⟨_, _, by subst hi; rfl⟩)
        have F9 := F8.new' E5 (fun k h => zt1 k (.inl h))
        have hz5 := E5.size
        obtain ⟨tw2, ti2'⟩ := MTab.set (e' := (((some (⟨bA, oA, none⟩ : Addr)), cA, x.1), (sq1, cq1, x.2 ++ [(ix.2, rd)]))) hTo he (E4.mono (fun k _ h => .inr h)) ((hTo.ownA _ _ he).fr E4 (fun k h1 h2 => hTo.sepAB _ _ he k h1 h2)) hO1 (fun k h1 h2 => (hI1 k h2).elim (fun h => hTo.sepAB _ _ he k h1 h) (fun h => by have := (hTo.ownA _ _ he).lt h1; omega)) (fun k h => h.elim (fun h => .inl (.inl h)) (fun h => (hI1 k h).elim (fun h => .inl (.inr h)) (fun h => .inr (fun hm => by have := hTo.lt hm; omega)))) E5 (by rw [← flat_setB he]; exact HO2)
        have ti2 := fun (k : Nat) hk => (ti2' k hk).elim Or.inl (fun h => h.elim (fun h => Or.inl (Or.inr ⟨_, _, he, .inl h⟩)) (fun h => (hI1 k h).elim (fun h => Or.inl (Or.inr ⟨_, _, he, .inr h⟩)) Or.inr))
        have tg1 : ∀ k, mtb (some (⟨bT, oT, none⟩ : Addr)) (TM.set (num s2) (((some (⟨bA, oA, none⟩ : Addr)), cA, x.1), (sq1, cq1, x.2 ++ [(ix.2, rd)]))) k → Z k ∨ w0.heap.size ≤ k := fun k hk => (ti2 k hk).elim (zt1 k) (fun h => .inr (by omega))
        have tn1_50 : ∀ k, mtb (some (⟨bT, oT, none⟩ : Addr)) (TM.set (num s2) (((some (⟨bA, oA, none⟩ : Addr)), cA, x.1), (sq1, cq1, x.2 ++ [(ix.2, rd)]))) k → k ≠ b := fun k hk => (ti2 k hk).elim (hnb k) (fun h => by have := (hBm).lt; omega)
        have tn1_21 : ∀ k, mtb (some (⟨bT, oT, none⟩ : Addr)) (TM.set (num s2) (((some (⟨bA, oA, none⟩ : Addr)), cA, x.1), (sq1, cq1, x.2 ++ [(ix.2, rd)]))) k → k ≠ b21 := fun k hk => (ti2 k hk).elim (nb2 k) (fun h => by have := (B21).lt; omega)
        have tn1_22 : ∀ k, mtb (some (⟨bT, oT, none⟩ : Addr)) (TM.set (num s2) (((some (⟨bA, oA, none⟩ : Addr)), cA, x.1), (sq1, cq1, x.2 ++ [(ix.2, rd)]))) k → k ≠ b22 := fun k hk => (ti2 k hk).elim (nb4 k) (fun h => by have := (B22).lt; omega)
        have tn1_23 : ∀ k, mtb (some (⟨bT, oT, none⟩ : Addr)) (TM.set (num s2) (((some (⟨bA, oA, none⟩ : Addr)), cA, x.1), (sq1, cq1, x.2 ++ [(ix.2, rd)]))) k → k ≠ b23 := fun k hk => (ti2 k hk).elim (nb6 k) (fun h => by have := (B23).lt; omega)
        have ts1_2 : ∀ k, mtb (some (⟨bT, oT, none⟩ : Addr)) (TM.set (num s2) (((some (⟨bA, oA, none⟩ : Addr)), cA, x.1), (sq1, cq1, x.2 ++ [(ix.2, rd)]))) k → ob stM k → False := fun k hk h2 => (ti2 k hk).elim (fun h => hsep k h h2) (fun h => by have := (hOm).lt h2; omega)
        refine lx_nil ?_
        refine wk_seq ?_
        refine wk_region ?_
        refine lx_value (want rfl) (mv_pointer rfl) ?_
        refine lx_value (want rfl) (rn_nilCheck rfl) ?_
        refine lx_value (want rfl) (rn_fieldAddr fa_113_1 rfl) ?_
        refine lx_value (want rfl) (rn_load1Blk ag_3 rfl ((((((((hBm.ext Eb21).ext Eb22).ext Eb23).ext E1).ext E2).ext E3).fr E4 (fun h => hnb _ (.inr ⟨_, _, he, .inr h⟩) rfl)).fr E5 (fun h => hnb _ (.inl h) rfl)) rfl) ?_
        refine lx_value (want rfl) (rn_add rfl rfl (by omega)) ?_
        refine lx_value (want rfl) (rn_nilCheck rfl) ?_
        refine lx_value (want rfl) (rn_fieldAddr fa_113_1 rfl) ?_
        refine lx_set (want rfl) sz_3 rfl (t_int rfl) rfl rfl rfl ((((((((hBm.ext Eb21).ext Eb22).ext Eb23).ext E1).ext E2).ext E3).fr E4 (fun h => hnb _ (.inr ⟨_, _, he, .inr h⟩) rfl)).fr E5 (fun h => hnb _ (.inl h) rfl)) (Nat.le_of_ble_eq_true rfl) ?_
        intro w9 Es2 Bs2
        have F10 := F9.new' Es2 (fun k h => by have h : k = b := h; rw [h]; exact (.inl hZb50))
        have hzs2 := Es2.size
        refine lx_nil ?_
        refine wk_seq ?_
        refine wk_region ?_
        refine lx_call (want rfl) (ent_func cf_105 args0) (hole_ct w9) ?_
        rintro _ w10 E6 rfl
        have F11 := F10.ext E6
        have hz6 := E6.size
        refine lx_set (want rfl) sz_36 rfl (t_agg rfl) rfl rfl rfl (((((((B23.ext E1).ext E2).ext E3).fr E4 (fun h => nb6 _ (.inr ⟨_, _, he, .inr h⟩) rfl)).fr E5 (fun h => nb6 _ (.inl h) rfl)).ne Es2 (by omega)).ext E6) (Nat.le_of_ble_eq_true rfl) ?_
        intro w11 Es3 Bs3
        have F12 := F11.set Es3 (by omega)
        have hzs3 := Es3.size
        refine lx_value (want rfl) (as_int rfl) ?_
        refine lx_nil ?_
        refine wk_ret ?_
        refine retR2 Tryz.results117 (.cell rfl (run_loadVar_blk ag_36 sz_36 Bs3 rfl rfl)) (.tmp (t_int rfl)) F12 ?_
        exact outx_mk (rdX_new hok hf hsx hu (fun g => g h0d) h6) rfl (aft_0 rfl) (mo_mk (mtab_set hT rfl) ((Bs2.ext E6).ne Es3 (by omega)) (by rw [List.length_set]) (by show _ = ((waits (m.set (num s2) (x.1, x.2 ++ [(ix.2, rd)])) : Nat) : Int); rw [read_waits hx]; omega) (by simp) (((tw2.fr Es2 (fun k hk h => tn1_50 k hk h)).ext E6).fr Es3 (fun k hk h => tn1_23 k hk h)) (by rw [List.append_nil]; exact (((((((((((hOm.ext Eb21).ext Eb22).ext Eb23).ext E1).ext E2).ext E3).fr E4 (fun k h1 h => hsep k (.inr ⟨_, _, he, .inr h⟩) h1)).fr E5 (fun k h1 h => hsep k (.inl h) h1)).ne Es2 (fun h => hnt _ h rfl)).ext E6).ne Es3 (fun h => nb5 _ h rfl))) tn1_50 hnt ts1_2 (.inl hZb50) tg1 zo2)
    ·
      have h0d := of_decide_eq_false h0d
      refine lx_value (want_if (j := 2) (d := 19) (x := true) (y := true) rfl rfl (by decide) rfl) (rn_not rfl) ?_
      refine lx_value (want rfl) (pick_t rfl rfl) ?_
      refine lx_value (want rfl) (as_bool rfl) ?_
      refine lx_nil ?_
      refine wk_cond_t rfl ?_
      refine wk_seq ?_
      refine wk_region ?_
      refine lx_value (want rfl) (mv_pointer rfl) ?_
      refine lx_value (want rfl) (rn_nilCheck rfl) ?_
      refine lx_value (want rfl) (rn_load2 ag_36 sz_36 rfl (vl_cell ((((((hTm.ext Eb21).ext Eb22).ext Eb23).ext E1).ext E2).ownA _ _ he) hu 0 _ rfl) (vl_cell ((((((hTm.ext Eb21).ext Eb22).ext Eb23).ext E1).ext E2).ownA _ _ he) hu 1 _ rfl)) ?_
      refine lx_set (want rfl) sz_36 rfl (t_agg rfl) rfl rfl rfl ((B23.ext E1).ext E2) (Nat.le_of_ble_eq_true rfl) ?_
      intro w6 Es4 Bs4
      have F13 := F5.set Es4 (by omega)
      have hzs4 := Es4.size
      refine lx_value (want rfl) (as_int rfl) ?_
      refine lx_nil ?_
      refine wk_ret ?_
      refine retR2 Tryz.results117 (.cell rfl (run_loadVar_blk ag_36 sz_36 Bs4 rfl rfl)) (.tmp (t_int rfl)) F13 ?_
      exact outx_old (rdX_val hf hsx hu h0d) rfl (mo_mk hT ((((((hBm.ext Eb21).ext Eb22).ext Eb23).ext E1).ext E2).ne Es4 (by omega)) rfl rfl rfl ((((((hTm.ext Eb21).ext Eb22).ext Eb23).ext E1).ext E2).fr Es4 (fun k hk h => nb6 k hk h)) ((((((hOm.ext Eb21).ext Eb22).ext Eb23).ext E1).ext E2).ne Es4 (fun h => nb5 _ h rfl)) hnb hnt hsep (.inl hZb50) zt1 zo2)
  ·
    have hf : fitB m s2 ix = false := fit_not hcn hn
    refine lx_value (want rfl) (mv_bool rfl) ?_
    refine lx_skip (want_if (j := 2) (d := 19) (x := true) (y := false) rfl rfl (by decide) rfl) ?_
    refine lx_skip (want_if (j := 2) (d := 19) (x := true) (y := false) rfl rfl (by decide) rfl) ?_
    refine lx_skip (want_if (j := 2) (d := 19) (x := true) (y := false) rfl rfl (by decide) rfl) ?_
    refine lx_skip (want_if (j := 2) (d := 19) (x := true) (y := false) rfl rfl (by decide) rfl) ?_
    refine lx_skip (want_if (j := 2) (d := 19) (x := true) (y := false) rfl rfl (by decide) rfl) ?_
    refine lx_value (want rfl) (pick_f rfl rfl) ?_
    refine lx_value (want rfl) (as_bool rfl) ?_
    refine lx_nil ?_
    refine wk_cond_f rfl ?_
    refine wk_seq ?_
    refine wk_region ?_
    refine lx_value (want rfl) (mv_pointer rfl) ?_
    refine lx_value (want rfl) (rn_neqP Tryz.underlying194 rfl rfl) ?_
    refine lx_b_f (hn) ?_
    refine lx_value (want rfl) (mv_bool rfl) ?_
    refine lx_skip (want_if (j := 2) (d := 32) (x := true) (y := false) rfl rfl (by decide) rfl) ?_
    refine lx_skip (want_if (j := 2) (d := 32) (x := true) (y := false) rfl rfl (by decide) rfl) ?_
    refine lx_skip (want_if (j := 2) (d := 32) (x := true) (y := false) rfl rfl (by decide) rfl) ?_
    refine lx_skip (want_if (j := 2) (d := 32) (x := true) (y := false) rfl rfl (by decide) rfl) ?_
    refine lx_skip (want_if (j := 2) (d := 32) (x := true) (y := false) rfl rfl (by decide) rfl) ?_
    refine lx_value (want rfl) (pick_f rfl rfl) ?_
    refine lx_value (want rfl) (as_bool rfl) ?_
    refine lx_nil ?_
    refine wk_cond_f rfl ?_
    refine wk_seq ?_
    refine wk_region ?_
    refine lx_value (want rfl) (mv_pointer rfl) ?_
    refine lx_value (want rfl) (rn_neqP Tryz.underlying194 rfl rfl) ?_
    refine lx_b_f (hn) ?_
    refine lx_value (want rfl) (as_bool rfl) ?_
    refine lx_nil ?_
    refine wk_cond_f rfl ?_
    refine wk_seq ?_
    refine wk_region ?_
    refine lx_value (want rfl) (rn_loadBlk ag_36 sz_36 rfl (((B21.ext Eb22).ext Eb23).ext E1) rfl rfl) ?_
    refine lx_call (want rfl) (ent_func cf_139 (argsC (t_agg rfl) args0)) (isbad_ct _ _ w4) ?_
    rintro _ w5 E7 rfl
    have F14 := F4.ext E7
    have hz7 := E7.size
    refine lx_split (fun h5 => ?_) (fun h5 => ?_)
    ·
      have h5 := of_decide_eq_true h5
      refine lx_value (want rfl) (as_bool rfl) ?_
      refine lx_nil ?_
      refine wk_cond_t rfl ?_
      refine wk_seq ?_
      refine wk_region ?_
      refine lx_value (want rfl) (rn_loadBlk ag_36 sz_36 rfl ((((B21.ext Eb22).ext Eb23).ext E1).ext E7) rfl rfl) ?_
      refine lx_set (want rfl) sz_36 rfl (t_agg rfl) rfl rfl rfl ((B23.ext E1).ext E7) (Nat.le_of_ble_eq_true rfl) ?_
      intro w6 Es5 Bs5
      have F15 := F14.set Es5 (by omega)
      have hzs5 := Es5.size
      refine lx_value (want rfl) (as_int rfl) ?_
      refine lx_nil ?_
      refine wk_ret ?_
      refine retR2 Tryz.results117 (.cell rfl (run_loadVar_blk ag_36 sz_36 Bs5 rfl rfl)) (.tmp (t_int rfl)) F15 ?_
      exact outx_old (rdX_s hf h5) rfl (mo_mk hT ((((((hBm.ext Eb21).ext Eb22).ext Eb23).ext E1).ext E7).ne Es5 (by omega)) rfl rfl rfl ((((((hTm.ext Eb21).ext Eb22).ext Eb23).ext E1).ext E7).fr Es5 (fun k hk h => nb6 k hk h)) ((((((hOm.ext Eb21).ext Eb22).ext Eb23).ext E1).ext E7).ne Es5 (fun h => nb5 _ h rfl)) hnb hnt hsep (.inl hZb50) zt1 zo2)
    ·
      have h5 := of_decide_eq_false h5
      refine lx_value (want rfl) (as_bool rfl) ?_
      refine lx_nil ?_
      refine wk_cond_f rfl ?_
      refine wk_seq ?_
      refine wk_region ?_
      refine lx_value (want rfl) (rn_loadBlk ag_36 sz_36 rfl (((B22.ext Eb23).ext E1).ext E7) rfl rfl) ?_
      refine lx_call (want rfl) (ent_func cf_139 (argsC (t_agg rfl) args0)) (isbad_ct _ _ w5) ?_
      rintro _ w6 E8 rfl
      have F16 := F14.ext E8
      have hz8 := E8.size
      refine lx_split (fun hi5 => ?_) (fun hi5 => ?_)
      ·
        have hi5 := of_decide_eq_true hi5
        refine lx_value (want rfl) (as_bool rfl) ?_
        refine lx_nil ?_
        refine wk_cond_t rfl ?_
        refine wk_seq ?_
        refine wk_region ?_
        refine lx_value (want rfl) (rn_loadBlk ag_36 sz_36 rfl ((((B22.ext Eb23).ext E1).ext E7).ext E8) rfl rfl) ?_
        refine lx_set (want rfl) sz_36 rfl (t_agg rfl) rfl rfl rfl (((B23.ext E1).ext E7).ext E8) (Nat.le_of_ble_eq_true rfl) ?_
        intro w7 Es6 Bs6
        have F17 := F16.set Es6 (by omega)
        have hzs6 := Es6.size
        refine lx_value (want rfl) (as_int rfl) ?_
        refine lx_nil ?_
        refine wk_ret ?_
        refine retR2 Tryz.results117 (.cell rfl (run_loadVar_blk ag_36 sz_36 Bs6 rfl rfl)) (.tmp (t_int rfl)) F17 ?_
        exact outx_old (rdX_ix hf h5 hi5) rfl (mo_mk hT (((((((hBm.ext Eb21).ext Eb22).ext Eb23).ext E1).ext E7).ext E8).ne Es6 (by omega)) rfl rfl rfl (((((((hTm.ext Eb21).ext Eb22).ext Eb23).ext E1).ext E7).ext E8).fr Es6 (fun k hk h => nb6 k hk h)) (((((((hOm.ext Eb21).ext Eb22).ext Eb23).ext E1).ext E7).ext E8).ne Es6 (fun h => nb5 _ h rfl)) hnb hnt hsep (.inl hZb50) zt1 zo2)
      ·
        have hi5 := of_decide_eq_false hi5
        refine lx_value (want rfl) (as_bool rfl) ?_
        refine lx_nil ?_
        refine wk_cond_f rfl ?_
        refine wk_seq ?_
        refine wk_seq ?_
        refine wk_region ?_
        refine lx_value (want rfl) (rn_fieldAddr fa_36_0 rfl) ?_
        refine lx_value (want rfl) (rn_load1Blk ag_5 rfl (((((B21.ext Eb22).ext Eb23).ext E1).ext E7).ext E8) rfl) ?_
        refine lx_value (want rfl) (rn_eql rfl rfl) ?_
        refine lx_dec (fun h3 => ?_) (fun h3 => ?_)
        ·
          refine lx_value (want rfl) (as_bool rfl) ?_
          refine lx_nil ?_
          refine wk_cond_t rfl ?_
          refine wk_skip ?_
          refine wk_cond_t rfl ?_
          refine wk_seq ?_
          refine wk_region ?_
          refine lx_call (want rfl) (ent_func cf_141 (argsC (t_int rfl) args0)) (bad_ct _ w6) ?_
          rintro _ w7 E9 rfl
          have F18 := F16.ext E9
          have hz9 := E9.size
          refine lx_set (want rfl) sz_36 rfl (t_agg rfl) rfl rfl rfl ((((B23.ext E1).ext E7).ext E8).ext E9) (Nat.le_of_ble_eq_true rfl) ?_
          intro w8 Es7 Bs7
          have F19 := F18.set Es7 (by omega)
          have hzs7 := Es7.size
          refine lx_value (want rfl) (as_int rfl) ?_
          refine lx_nil ?_
          refine wk_ret ?_
          refine retR2 Tryz.results117 (.cell rfl (run_loadVar_blk ag_36 sz_36 Bs7 rfl rfl)) (.tmp (t_int rfl)) F19 ?_
          exact outx_old (rdX_3 hf h5 hi5 (.inl h3)) rfl (mo_mk hT ((((((((hBm.ext Eb21).ext Eb22).ext Eb23).ext E1).ext E7).ext E8).ext E9).ne Es7 (by omega)) rfl rfl rfl ((((((((hTm.ext Eb21).ext Eb22).ext Eb23).ext E1).ext E7).ext E8).ext E9).fr Es7 (fun k hk h => nb6 k hk h)) ((((((((hOm.ext Eb21).ext Eb22).ext Eb23).ext E1).ext E7).ext E8).ext E9).ne Es7 (fun h => nb5 _ h rfl)) hnb hnt hsep (.inl hZb50) zt1 zo2)
        ·
          refine lx_value (want rfl) (as_bool rfl) ?_
          refine lx_nil ?_
          refine wk_cond_f rfl ?_
          refine wk_region ?_
          refine lx_value (want rfl) (rn_fieldAddr fa_36_0 rfl) ?_
          refine lx_value (want rfl) (rn_load1Blk ag_5 rfl (((((B21.ext Eb22).ext Eb23).ext E1).ext E7).ext E8) rfl) ?_
          refine lx_value (want rfl) (rn_eql rfl rfl) ?_
          refine lx_dec (fun h4 => ?_) (fun h4 => ?_)
          ·
            refine lx_value (want rfl) (mv_bool rfl) ?_
            refine lx_value (want_if (j := 3) (d := 86) (x := true) (y := true) rfl rfl (by decide) rfl) (rn_fieldAddr fa_36_0 rfl) ?_
            refine lx_value (want_if (j := 3) (d := 86) (x := true) (y := true) rfl rfl (by decide) rfl) (rn_load1Blk ag_5 rfl ((((B22.ext Eb23).ext E1).ext E7).ext E8) rfl) ?_
            refine lx_value (want_if (j := 3) (d := 86) (x := true) (y := true) rfl rfl (by decide) rfl) (rn_eql rfl rfl) ?_
            refine lx_dec (fun h1 => ?_) (fun h1 => ?_)
            ·
              refine lx_value (want rfl) (pick_t rfl rfl) ?_
              refine lx_value (want rfl) (as_bool rfl) ?_
              refine lx_nil ?_
              refine wk_cond_t rfl ?_
              refine wk_seq ?_
              refine wk_region ?_
              refine lx_call (want rfl) (ent_func cf_141 (argsC (t_int rfl) args0)) (bad_ct _ w6) ?_
              rintro _ w7 E10 rfl
              have F20 := F16.ext E10
              have hz10 := E10.size
              refine lx_set (want rfl) sz_36 rfl (t_agg rfl) rfl rfl rfl ((((B23.ext E1).ext E7).ext E8).ext E10) (Nat.le_of_ble_eq_true rfl) ?_
              intro w8 Es8 Bs8
              have F21 := F20.set Es8 (by omega)
              have hzs8 := Es8.size
              refine lx_value (want rfl) (as_int rfl) ?_
              refine lx_nil ?_
              refine wk_ret ?_
              refine retR2 Tryz.results117 (.cell rfl (run_loadVar_blk ag_36 sz_36 Bs8 rfl rfl)) (.tmp (t_int rfl)) F21 ?_
              exact outx_old (rdX_3 hf h5 hi5 (.inr ⟨h4, h1⟩)) rfl (mo_mk hT ((((((((hBm.ext Eb21).ext Eb22).ext Eb23).ext E1).ext E7).ext E8).ext E10).ne Es8 (by omega)) rfl rfl rfl ((((((((hTm.ext Eb21).ext Eb22).ext Eb23).ext E1).ext E7).ext E8).ext E10).fr Es8 (fun k hk h => nb6 k hk h)) ((((((((hOm.ext Eb21).ext Eb22).ext Eb23).ext E1).ext E7).ext E8).ext E10).ne Es8 (fun h => nb5 _ h rfl)) hnb hnt hsep (.inl hZb50) zt1 zo2)
            ·
              refine lx_value (want rfl) (pick_t rfl rfl) ?_
              refine lx_value (want rfl) (as_bool rfl) ?_
              refine lx_nil ?_
              refine wk_cond_f rfl ?_
              refine wk_skip ?_
              refine wk_seq ?_
              refine wk_region ?_
              refine lx_call (want rfl) (ent_func cf_141 (argsC (t_int rfl) args0)) (bad_ct _ w6) ?_
              rintro _ w7 E11 rfl
              have F22 := F16.ext E11
              have hz11 := E11.size
              refine lx_set (want rfl) sz_36 rfl (t_agg rfl) rfl rfl rfl ((((B23.ext E1).ext E7).ext E8).ext E11) (Nat.le_of_ble_eq_true rfl) ?_
              intro w8 Es9 Bs9
              have F23 := F22.set Es9 (by omega)
              have hzs9 := Es9.size
              refine lx_value (want rfl) (as_int rfl) ?_
              refine lx_nil ?_
              refine wk_ret ?_
              refine retR2 Tryz.results117 (.cell rfl (run_loadVar_blk ag_36 sz_36 Bs9 rfl rfl)) (.tmp (t_int rfl)) F23 ?_
              exact outx_old (rdX_5 hf h5 hi5 (fun g => g.elim h3 (fun g => h1 g.2))) rfl (mo_mk hT ((((((((hBm.ext Eb21).ext Eb22).ext Eb23).ext E1).ext E7).ext E8).ext E11).ne Es9 (by omega)) rfl rfl rfl ((((((((hTm.ext Eb21).ext Eb22).ext Eb23).ext E1).ext E7).ext E8).ext E11).fr Es9 (fun k hk h => nb6 k hk h)) ((((((((hOm.ext Eb21).ext Eb22).ext Eb23).ext E1).ext E7).ext E8).ext E11).ne Es9 (fun h => nb5 _ h rfl)) hnb hnt hsep (.inl hZb50) zt1 zo2)
          ·
            refine lx_value (want rfl) (mv_bool rfl) ?_
            refine lx_skip (want_if (j := 3) (d := 86) (x := true) (y := false) rfl rfl (by decide) rfl) ?_
            refine lx_skip (want_if (j := 3) (d := 86) (x := true) (y := false) rfl rfl (by decide) rfl) ?_
            refine lx_skip (want_if (j := 3) (d := 86) (x := true) (y := false) rfl rfl (by decide) rfl) ?_
            refine lx_value (want rfl) (pick_f rfl rfl) ?_
            refine lx_value (want rfl) (as_bool rfl) ?_
            refine lx_nil ?_
            refine wk_cond_f rfl ?_
            refine wk_skip ?_
            refine wk_seq ?_
            refine wk_region ?_
            refine lx_call (want rfl) (ent_func cf_141 (argsC (t_int rfl) args0)) (bad_ct _ w6) ?_
            rintro _ w7 E12 rfl
            have F24 := F16.ext E12
            have hz12 := E12.size
            refine lx_set (want rfl) sz_36 rfl (t_agg rfl) rfl rfl rfl ((((B23.ext E1).ext E7).ext E8).ext E12) (Nat.le_of_ble_eq_true rfl) ?_
            intro w8 Es10 Bs10
            have F25 := F24.set Es10 (by omega)
            have hzs10 := Es10.size
            refine lx_value (want rfl) (as_int rfl) ?_
            refine lx_nil ?_
            refine wk_ret ?_
            refine retR2 Tryz.results117 (.cell rfl (run_loadVar_blk ag_36 sz_36 Bs10 rfl rfl)) (.tmp (t_int rfl)) F25 ?_
            exact outx_old (rdX_5 hf h5 hi5 (fun g => g.elim h3 (fun g => h4 g.1))) rfl (mo_mk hT ((((((((hBm.ext Eb21).ext Eb22).ext Eb23).ext E1).ext E7).ext E8).ext E12).ne Es10 (by omega)) rfl rfl rfl ((((((((hTm.ext Eb21).ext Eb22).ext Eb23).ext E1).ext E7).ext E8).ext E12).fr Es10 (fun k hk h => nb6 k hk h)) ((((((((hOm.ext Eb21).ext Eb22).ext Eb23).ext E1).ext E7).ext E8).ext E12).ne Es10 (fun h => nb5 _ h rfl)) hnb hnt hsep (.inl hZb50) zt1 zo2)

theorem refalloc_ct (m : Mem) (s : Option Addr) (c : Nat) (G : Nat → Prop) (hB : Bm m) (z : Vl) (w0 : World) (hm : MemS G w0 s m) :
    CT Tryz.prog 88 [.agg #[.slice s m.length c], .agg #[.int .u8 z.1, .int .i64 z.2]] w0 no (fun v w => OutA G w0.heap.size w v (allocR m z)) := by
  have hBl := hB.1
  have F0 := Fr.refl no w0
  refine ct_body Tryz.func88 rfl Tryz.ntmps88 (Nat.le_of_ble_eq_true rfl) ?_
  refine wk_seq ?_
  refine wk_region ?_
  refine lx_new (want rfl) (rn_box (t_agg rfl)) ?_
  intro b1 w1 hb1 Eb1 B1 hlb1
  have F1 := F0.ext Eb1
  have hzb1 := Eb1.size
  refine lx_new (want rfl) (rn_box (t_agg rfl)) ?_
  intro b2 w2 hb2 Eb2 B2 hlb2
  have F2 := F1.ext Eb2
  have hzb2 := Eb2.size
  refine lx_new (want rfl) (rn_alloc ze_24) ?_
  intro b3 w3 hb3 Eb3 B3 hlb3
  have F3 := F2.ext Eb3
  have hzb3 := Eb3.size
  refine lx_new (want rfl) (rn_alloc ze_36) ?_
  intro b4 w4 hb4 Eb4 B4 hlb4
  have F4 := F3.ext Eb4
  have hzb4 := Eb4.size
  refine lx_value (want rfl) (as_int rfl) ?_
  refine lx_nil ?_
  refine wk_seq ?_
  refine wk_block ?_
  refine wk_seq ?_
  refine wk_region ?_
  refine lx_value (want rfl) (rn_fieldAddr fa_36_0 rfl) ?_
  refine lx_value (want rfl) (rn_load1Blk ag_5 rfl ((B2.ext Eb3).ext Eb4) rfl) ?_
  refine lx_value (want rfl) (rn_eql rfl rfl) ?_
  refine lx_dec (fun h5 => ?_) (fun h5 => ?_)
  ·
    refine lx_value (want rfl) (as_bool rfl) ?_
    refine lx_nil ?_
    refine wk_cond_t rfl ?_
    refine wk_seq ?_
    refine wk_mixK 3 4 (B3.ext Eb4) (fun kS => match kS with | 2 => .sto 4 12 (fun J u w => J.1 < J.2 ∧ Blk w J.1 u.cells.toList 24) | _ => .none) (by kernel_rfl) (by kernel_rfl) (by intro kS G hk; (try dsimp only at hk); (split at hk) <;> first | (cases hk; done) | (injection hk with hk; subst hk; exact ⟨by intro j hkj I v w w' hR hG; first | exact hG, fun _ I v w w' hR hG => by first | exact hG⟩)) (by intro kS s y G hk; (try dsimp only at hk); (split at hk) <;> first | (cases hk; done) | (injection hk with hk1 hk2 hk3; subst hk1; subst hk2; subst hk3; exact ⟨by kernel_rfl, by intro j hkj I v w w' hR hG; exact ⟨hG.1, hG.2.ext hR⟩, fun I v w w' hR hG => ⟨hG.1, hG.2.fr hR (fun h => h.2 ⟨Nat.le_refl _, hG.1⟩)⟩⟩)) ?_
    simp only [List.take_succ_cons, List.take_zero, List.take_nil, List.drop_succ_cons, List.drop_zero, List.drop_nil]
    refine mx_calm rfl (want rfl) (fun u1 eu1 fu1 => rn_loadBlk ag_24 sz_24 rfl ((((B1.ext Eb2).ext Eb3).ext Eb4).fr (mG eu1) (show ¬ (b1 = b3) by omega)) rfl rfl) ?_
    refine mx_calm rfl (want rfl) (fun u2 eu2 fu2 => rn_loadBlk ag_36 sz_36 rfl (((B2.ext Eb3).ext Eb4).fr (mG eu2) (show ¬ (b2 = b3) by omega)) rfl rfl) ?_
    refine mx_sto rfl rfl rfl rfl (want rfl) (fun u3 eu3 fu3 _ => by obtain hB4 := fu3 4 _ rfl (show (4 : Nat) ∈ _ from by decide); exact (do_sto sz_24 rfl rfl rfl rfl rfl hB4 rfl ⟨Nat.le_refl _, (Nat.lt_succ_self _)⟩).mono (fun v w' h => ⟨h.1, h.2.1, (Nat.lt_succ_self _), h.2.2⟩)) ?_
    refine mx_nil (fun w5 E1' H1 HS => ?_)
    have E1 := mG E1'
    have F5 := F4.set E1 (by omega)
    have hz1 := E1.size
    obtain ⟨_, _, hBK5⟩ := H1 4 _ rfl
    refine lx_set (want rfl) sz_36 rfl (t_agg rfl) rfl rfl rfl (B4.ne E1 (by omega)) (Nat.le_of_ble_eq_true rfl) ?_
    intro w6 Es1 Bs1
    have F6 := F5.set Es1 (by omega)
    have hzs1 := Es1.size
    refine lx_value (want rfl) (as_int rfl) ?_
    refine lx_nil ?_
    refine wk_ret ?_
    refine retR3 Tryz.results88 (.cell rfl (run_loadVar_blk ag_24 sz_24 (hBK5.ne Es1 (by omega)) rfl rfl)) (.cell rfl (run_loadVar_blk ag_36 sz_36 Bs1 rfl rfl)) (.tmp (t_int rfl)) F6 ?_
    exact al_5 h5 (memO_old (hm.fr (st_stab _) F6 (fun _ _ h => h)))
  ·
    refine lx_value (want rfl) (as_bool rfl) ?_
    refine lx_nil ?_
    refine wk_cond_f rfl ?_
    refine wk_seq ?_
    refine wk_region ?_
    refine lx_value (want rfl) (rn_fieldAddr fa_36_0 rfl) ?_
    refine lx_value (want rfl) (rn_load1Blk ag_5 rfl ((B2.ext Eb3).ext Eb4) rfl) ?_
    refine lx_value (want rfl) (rn_neq rfl rfl) ?_
    refine lx_dec (fun h1 => ?_) (fun h1 => ?_)
    ·
      refine lx_value (want rfl) (as_bool rfl) ?_
      refine lx_nil ?_
      refine wk_cond_t rfl ?_
      refine wk_seq ?_
      refine wk_mix 2 (fun kS => match kS with | 1 => .val (.agg #[.int .u8 5, .int .i64 5]) | _ => .none) (by kernel_rfl) (by kernel_rfl) (by intro kS G hk; (try dsimp only at hk); (split at hk) <;> first | (cases hk; done) | (injection hk with hk; subst hk; exact ⟨by intro j hkj I v w w' hR hG; first | exact hG, fun ⟨_, _, _, _, hs⟩ => by (try dsimp only at hs); split at hs <;> cases hs⟩)) (by intro kS s y G hk; (try dsimp only at hk); split at hk <;> cases hk) ?_
      simp only [List.take_succ_cons, List.take_zero, List.take_nil, List.drop_succ_cons, List.drop_zero, List.drop_nil]
      refine mx_calm rfl (want rfl) (fun u4 eu4 fu4 => rn_loadBlk ag_24 sz_24 rfl ((((B1.ext Eb2).ext Eb3).ext Eb4).ext ((ext_drawn _).trans' eu4)) rfl rfl) ?_
      refine mx_val rfl (want rfl) (fun u5 eu5 fu5 => do_call (ent_func cf_67 (argsC (t_int rfl) args0)) (refbad_ct _ u5) (fun _ _ E h => ⟨E, h⟩)) ?_
      refine mx_nil (fun w5 E2' H2 HS => ?_)
      have E2 := (ext_drawn _).trans' E2'
      have F7 := F4.ext E2
      have hz2 := E2.size
      refine lx_set (want rfl) sz_24 rfl (t_agg rfl) rfl rfl rfl ((B3.ext Eb4).ext E2) (Nat.le_of_ble_eq_true rfl) ?_
      intro w6 Es2 Bs2
      have F8 := F7.set Es2 (by omega)
      have hzs2 := Es2.size
      refine lx_set (want rfl) sz_36 rfl (t_agg rfl) rfl rfl rfl ((B4.ext E2).ne Es2 (by omega)) (Nat.le_of_ble_eq_true rfl) ?_
      intro w7 Es3 Bs3
      have F9 := F8.set Es3 (by omega)
      have hzs3 := Es3.size
      refine lx_value (want rfl) (as_int rfl) ?_
      refine lx_nil ?_
      refine wk_ret ?_
      refine retR3 Tryz.results88 (.cell rfl (run_loadVar_blk ag_24 sz_24 (Bs2.ne Es3 (by omega)) rfl rfl)) (.cell rfl (run_loadVar_blk ag_36 sz_36 Bs3 rfl rfl)) (.tmp (t_int rfl)) F9 ?_
      exact al_1 h5 h1 (memO_old (hm.fr (st_stab _) F9 (fun _ _ h => h)))
    ·
      refine lx_value (want rfl) (as_bool rfl) ?_
      refine lx_nil ?_
      refine wk_cond_f rfl ?_
      refine wk_seq ?_
      refine wk_region ?_
      refine lx_value (want rfl) (rn_fieldAddr fa_36_1 rfl) ?_
      refine lx_value (want rfl) (rn_load1Blk ag_3 rfl ((B2.ext Eb3).ext Eb4) rfl) ?_
      refine lx_call (want rfl) (ent_func cf_65 (argsC (t_int rfl) (argsC (t_int rfl) (argsC (t_int rfl) args0)))) (in_ct _ _ _ w4) ?_
      rintro _ w5 E3 rfl
      have F10 := F4.ext E3
      have hz3 := E3.size
      refine lx_split (fun hin => ?_) (fun hin => ?_)
      ·
        refine lx_value (want rfl) (rn_not rfl) ?_
        refine lx_value (want rfl) (as_bool rfl) ?_
        refine lx_nil ?_
        refine wk_cond_f rfl ?_
        refine wk_seq ?_
        refine wk_region ?_
        refine lx_value (want rfl) (rn_fieldAddr fa_24_0 rfl) ?_
        refine lx_value (want rfl) (rn_load1Blk ag_22 rfl ((((B1.ext Eb2).ext Eb3).ext Eb4).ext E3) rfl) ?_
        refine lx_value (want rfl) (rn_len Tryz.underlying22 rfl) ?_
        refine lx_value (want rfl) (rn_eql rfl rfl) ?_
        refine lx_dec (fun hl => ?_) (fun hl => ?_)
        ·
          refine lx_value (want rfl) (as_bool rfl) ?_
          refine lx_nil ?_
          refine wk_cond_t rfl ?_
          refine wk_seq ?_
          refine wk_region ?_
          refine lx_value (want rfl) (rn_loadBlk ag_24 sz_24 rfl ((((B1.ext Eb2).ext Eb3).ext Eb4).ext E3) rfl rfl) ?_
          refine lx_value (want rfl) (rn_build0  (fun w => bd_36  w)) ?_
          refine lx_set (want rfl) sz_24 rfl (t_agg rfl) rfl rfl rfl ((B3.ext Eb4).ext E3) (Nat.le_of_ble_eq_true rfl) ?_
          intro w6 Es4 Bs4
          have F11 := F10.set Es4 (by omega)
          have hzs4 := Es4.size
          refine lx_set (want rfl) sz_36 rfl (t_agg rfl) rfl rfl rfl ((B4.ext E3).ne Es4 (by omega)) (Nat.le_of_ble_eq_true rfl) ?_
          intro w7 Es5 Bs5
          have F12 := F11.set Es5 (by omega)
          have hzs5 := Es5.size
          refine lx_value (want rfl) (as_int rfl) ?_
          refine lx_nil ?_
          refine wk_ret ?_
          refine retR3 Tryz.results88 (.cell rfl (run_loadVar_blk ag_24 sz_24 (Bs4.ne Es5 (by omega)) rfl rfl)) (.cell rfl (run_loadVar_blk ag_36 sz_36 Bs5 rfl rfl)) (.tmp (t_int rfl)) F12 ?_
          exact al_full h5 h1 (of_decide_eq_true hin) hl
        ·
          refine lx_value (want rfl) (as_bool rfl) ?_
          refine lx_nil ?_
          refine wk_cond_f rfl ?_
          refine wk_skip ?_
          refine wk_seq ?_
          refine wk_region ?_
          refine lx_value (want rfl) (rn_loadBlk ag_24 sz_24 rfl ((((B1.ext Eb2).ext Eb3).ext Eb4).ext E3) rfl rfl) ?_
          refine lx_call (want rfl) (ent_func cf_20 (argsC (t_agg rfl) args0)) (copy_ct m _ _ _ hB w5 (hm.fr (st_stab _) F10 (fun _ _ h => h))) ?_
          rintro _ w6 E4 ⟨sC, cC, TC, rfl, hTC, hTabC, hgC⟩
          have F13 := F10.ext E4
          have hz4 := E4.size
          have tg2 : ∀ k, mtb sC TC k → w0.heap.size ≤ k := fun k hk => ((mtb_inr hgC) k hk).elim ((fun _ h => mtb_nil h) k) (fun h => by omega)
          have tn2_1 : ∀ k, mtb sC TC k → k ≠ b1 := fun k hk => ((mtb_inr hgC) k hk).elim ((fun _ h => mtb_nil h) k) (fun h => by have := (B1).lt; omega)
          have tn2_2 : ∀ k, mtb sC TC k → k ≠ b2 := fun k hk => ((mtb_inr hgC) k hk).elim ((fun _ h => mtb_nil h) k) (fun h => by have := (B2).lt; omega)
          have tn2_3 : ∀ k, mtb sC TC k → k ≠ b3 := fun k hk => ((mtb_inr hgC) k hk).elim ((fun _ h => mtb_nil h) k) (fun h => by have := (B3).lt; omega)
          have tn2_4 : ∀ k, mtb sC TC k → k ≠ b4 := fun k hk => ((mtb_inr hgC) k hk).elim ((fun _ h => mtb_nil h) k) (fun h => by have := (B4).lt; omega)
          refine lx_new (want rfl) (rn_alloc ze_24) ?_
          intro b5 w7 hb5 Eb5 B5 hlb5
          have F14 := F13.ext Eb5
          have hzb5 := Eb5.size
          have nb1 : ∀ k, mtb sC TC k → k ≠ b5 := fun k hk => by have := (hTabC).lt hk; omega
          refine lx_set (want rfl) sz_24 rfl (t_agg rfl) rfl rfl rfl B5 (Nat.le_of_ble_eq_true rfl) ?_
          intro w8 Es6 Bs6
          have F15 := F14.set Es6 (by omega)
          have hzs6 := Es6.size
          refine lx_nil ?_
          refine wk_seq ?_
          have hTo := ((hTabC.ext Eb5).fr Es6 (fun k hk h => nb1 k hk h))
          have hin2 := of_decide_eq_true hin
          have hz2 : z.2 = ((z.2.toNat : Nat) : Int) := by omega
          have hSl : ∀ k, (ob sC) k → k < w8.heap.size := fun k h => (((hTabC.ext Eb5).fr Es6 (fun k hk h => nb1 k hk h))).lt (.inl h)
          refine wk_mixA 9 7 (ob sC) (fun kS => match kS with | 4 => .any (fun I v w => ∃ b4, v = .slice (some ⟨b4, 0, none⟩) z.2.toNat z.2.toNat ∧ w8.heap.size ≤ b4 ∧ Blk w b4 ((List.replicate z.2.toNat [Value.int .u8 0, .int .i64 0]).flatten) 36) | 5 => .any (fun I v w => ∃ b4, v = .agg #[.slice (some ⟨b4, 0, none⟩) z.2.toNat z.2.toNat, .slice none 0 0] ∧ w8.heap.size ≤ b4 ∧ Blk w b4 ((List.replicate z.2.toNat [Value.int .u8 0, .int .i64 0]).flatten) 36) | 6 => .any (fun I v w => ∃ b b4, v = .slice (some ⟨b, 0, none⟩) 1 1 ∧ w8.heap.size ≤ b ∧ Blk w b [.slice (some ⟨b4, 0, none⟩) z.2.toNat z.2.toNat, .slice none 0 0] 65 ∧ w8.heap.size ≤ b4 ∧ Blk w b4 ((List.replicate z.2.toNat [Value.int .u8 0, .int .i64 0]).flatten) 36) | 7 => .any (fun I v w => ∃ (e : SE Vl Rd) (s : Option Addr) (c : Nat), v = .slice s (TC ++ [e]).length c ∧ e.abs = (holesN z.2.toNat, []) ∧ MTab w 65 36 2 vlC 115 2 rdC s c (TC ++ [e]) ∧ ∀ k, mtb s (TC ++ [e]) k → (mtb sC TC k ∨ w8.heap.size ≤ k)) | _ => .none) (by kernel_rfl) (by kernel_rfl) (by intro kS G hk; (try dsimp only at hk); (split at hk) <;> first | (cases hk; done) | (injection hk with hk; subst hk; exact ⟨by intro j hkj I v w w' hR hG; first | exact hG | (obtain ⟨b, h1, h2, h3⟩ := hG; exact ⟨b, h1, h2, h3.fr (mS hR) (fun hs => by have := hTo.out.lt hs; omega)⟩) | (obtain ⟨b, h1, h2, h3⟩ := hG; exact ⟨b, h1, h2, h3.fr (mS hR) (fun hs => by have := hTo.out.lt hs; omega)⟩) | (obtain ⟨b, b4, h1, h2, h3, h4, h5⟩ := hG; exact ⟨b, b4, h1, h2, h3.fr (mS hR) (fun hs => by have := hTo.out.lt hs; omega), h4, h5.fr (mS hR) (fun hs => by have := hTo.out.lt hs; omega)⟩) | (obtain ⟨e, s, c, h1, h2, h3, h4⟩ := hG; exact ⟨e, s, c, h1, h2, h3.ext (mT hkj hR), h4⟩), fun ⟨_, _, _, _, hs⟩ => by (try dsimp only at hs); split at hs <;> cases hs⟩)) (by intro kS s y G hk; (try dsimp only at hk); split at hk <;> cases hk) ?_
          simp only [List.take_succ_cons, List.take_zero, List.take_nil, List.drop_succ_cons, List.drop_zero, List.drop_nil]
          refine mx_calm rfl (want rfl) (fun u6 eu6 fu6 => rn_fieldAddr fa_24_0 rfl) ?_
          refine mx_calm rfl (want rfl) (fun u7 eu7 fu7 => rn_load1Blk ag_22 rfl (Bs6.fr (mD (by decide) eu7) (fun h => nb1 _ (.inl h) rfl)) rfl) ?_
          refine mx_calm rfl (want rfl) (fun u8 eu8 fu8 => rn_fieldAddr fa_36_1 rfl) ?_
          refine mx_calm rfl (want rfl) (fun u9 eu9 fu9 => rn_load1Blk ag_3 rfl (((((((B2.ext Eb3).ext Eb4).ext E3).ext E4).ext Eb5).ne Es6 (by omega)).fr (mD (by decide) eu9) (fun h => tn2_2 _ (.inl h) rfl)) rfl) ?_
          refine mx_any rfl rfl (want rfl) (fun u10 eu10 fu10 => (do_newS2 (rn_makeSliceN (n := z.2.toNat) Tryz.underlying30 ti_36 rfl (by decide) rfl (by exact (rfl).trans (congrArg (Value.int .i64) hz2)) (by exact (rfl).trans (congrArg (Value.int .i64) hz2)) (by omega)) (show _ ≤ _ from ((mD (by decide) eu10)).size)).mono (fun v w' h => ⟨(mE (by decide) h.1), by obtain ⟨h1, b, h2, h3, _, h4⟩ := h; exact ⟨b, h2, h3, h4⟩⟩)) (fun I40 v40 => ?_)
          refine mx_any rfl rfl (want rfl) (fun u11 eu11 fu11 => by obtain ⟨b4, rfl, hb4, hB4⟩ := fu11 40 _ rfl (show (40 : Nat) ∈ _ from by decide); exact do_value (rn_build1 (t_slice rfl) (fun w => bd_65_0 _ _ _ w)) ⟨(mE (by decide) (Fr.refl no _)), ⟨b4, rfl, hb4, hB4⟩⟩) (fun I41 v41 => ?_)
          refine mx_any rfl rfl (want rfl) (fun u12 eu12 fu12 => by obtain ⟨b4, rfl, hb4, hB4⟩ := fu12 41 _ rfl (show (41 : Nat) ∈ _ from by decide); exact (do_newS2 (rn_bslice (xs := [.tmp 41]) Tryz.underlying22 sz_65 ze_65 rfl (argsC (t_agg rfl) args0) (CL.cons rfl rfl CL.nil) rfl (Nat.le_of_ble_eq_true rfl)) (show _ ≤ _ from ((mD (by decide) eu12)).size)).mono (fun v w' h => ⟨(mE (by decide) h.1), by obtain ⟨h1, b, h2, h3, _, h4⟩ := h; exact ⟨b, b4, h2, h3, h4, hb4, hB4.ext h1⟩⟩)) (fun I42 v42 => ?_)
          refine mx_any rfl rfl (want rfl) (fun u13 eu13 fu13 => by obtain ⟨b29, b4, rfl, hb29, hB29, hb4, hB4⟩ := fu13 42 _ rfl (show (42 : Nat) ∈ _ from by decide); exact do_append 48 Tryz.underlying22 ti_65 (by decide) rfl (by decide) rfl rfl (((hTabC.ext Eb5).fr Es6 (fun k hk h => nb1 k hk h)).ext (mC eu13)).out (Src.blk hB29 rfl rfl) (by have := congrArg List.length hTC; simp at this; omega) (fun sA cA wA AP => ⟨(mF AP.fr), by obtain ⟨g1, g2⟩ := MTab.snoc (e := ((some ⟨b4, 0, none⟩, z.2.toNat, holesN z.2.toNat), (none, 0, []))) (((hTabC.ext Eb5).fr Es6 (fun k hk h => nb1 k hk h)).ext (mC eu13)) (holes_own hB4 (by omega)) (OwnS.nil _ _ _) (fun k _ h => ob_none h) (fun k hk hb => by have := hTo.lt hb; rcases hk with hk | hk; have := ob_some hk; omega; exact ob_none hk) (by have el : (holesN z.2.toNat).length = z.2.toNat := List.length_replicate; simp only [SE.vs, TE.v, el]; exact AP); exact ⟨_, sA, cA, by simp, rfl, g1, fun k hk => (g2 k hk).elim .inl (fun h => .inr (h.elim (fun h => h.elim (fun h => by have := ob_some h; omega) (fun h => ob_none h)) (fun h => Nat.le_trans (mC eu13).size h)))⟩⟩)) (fun I43 v43 => ?_)
          refine mx_calm rfl (want rfl) (fun u14 eu14 fu14 => rn_fieldAddr fa_24_0 rfl) ?_
          refine mx_nil (fun w9 E5' H3 HS => ?_)
          have E5 := mG E5'
          have F16 := F15.new E5 (fun k h => tg2 k (.inl h))
          have hz5 := E5.size
          have hI43 := (HS.1 43 _ rfl).2
          have hI42 := (HS.1 42 _ rfl).2
          have hI41 := (HS.1 41 _ rfl).2
          have hI40 := (HS.1 40 _ rfl).2
          have hX43_42 := HS.2 43 _ 42 _ rfl rfl (show (43 : Nat) ≠ 42 from by decide)
          have hX43_41 := HS.2 43 _ 41 _ rfl rfl (show (43 : Nat) ≠ 41 from by decide)
          have hX43_40 := HS.2 43 _ 40 _ rfl rfl (show (43 : Nat) ≠ 40 from by decide)
          have hX42_41 := HS.2 42 _ 41 _ rfl rfl (show (42 : Nat) ≠ 41 from by decide)
          have hX42_40 := HS.2 42 _ 40 _ rfl rfl (show (42 : Nat) ≠ 40 from by decide)
          have hX41_40 := HS.2 41 _ 40 _ rfl rfl (show (41 : Nat) ≠ 40 from by decide)
          simp only at hI43
          simp only at hI42
          simp only at hI41
          simp only at hI40
          simp only at hX43_42
          simp only at hX43_41
          simp only at hX43_40
          simp only at hX42_41
          simp only at hX42_40
          simp only at hX41_40
          have g43 := H3 43 _ rfl
          obtain ⟨e, sN, cN, rfl, he, hTN, hIN⟩ := g43
          have tg3 : ∀ k, mtb sN (TC ++ [e]) k → w0.heap.size ≤ k := fun k hk => (hIN k hk).elim (tg2 k) (fun h => by omega)
          have tn3_1 : ∀ k, mtb sN (TC ++ [e]) k → k ≠ b1 := fun k hk => (hIN k hk).elim (tn2_1 k) (fun h => by have := (B1).lt; omega)
          have tn3_2 : ∀ k, mtb sN (TC ++ [e]) k → k ≠ b2 := fun k hk => (hIN k hk).elim (tn2_2 k) (fun h => by have := (B2).lt; omega)
          have tn3_3 : ∀ k, mtb sN (TC ++ [e]) k → k ≠ b3 := fun k hk => (hIN k hk).elim (tn2_3 k) (fun h => by have := (B3).lt; omega)
          have tn3_4 : ∀ k, mtb sN (TC ++ [e]) k → k ≠ b4 := fun k hk => (hIN k hk).elim (tn2_4 k) (fun h => by have := (B4).lt; omega)
          have tn3_5 : ∀ k, mtb sN (TC ++ [e]) k → k ≠ b5 := fun k hk => (hIN k hk).elim (nb1 k) (fun h => by have := (Bs6).lt; omega)
          have g42 := H3 42 _ rfl
          have g41 := H3 41 _ rfl
          have g40 := H3 40 _ rfl
          refine lx_set (want rfl) sz_22 rfl (t_slice rfl) rfl rfl rfl (Bs6.fr E5 (fun h => nb1 _ (.inl h) rfl)) (Nat.le_of_ble_eq_true rfl) ?_
          intro w10 Es7 Bs7
          have F17 := F16.set Es7 (by omega)
          have hzs7 := Es7.size
          refine lx_nil ?_
          refine wk_seq ?_
          refine wk_mix 5 (fun kS => match kS with | 4 => .val (.agg #[.int .u8 4, .int .i64 ((m.length : Nat) : Int)]) | _ => .none) (by kernel_rfl) (by kernel_rfl) (by intro kS G hk; (try dsimp only at hk); (split at hk) <;> first | (cases hk; done) | (injection hk with hk; subst hk; exact ⟨by intro j hkj I v w w' hR hG; first | exact hG, fun ⟨_, _, _, _, hs⟩ => by (try dsimp only at hs); split at hs <;> cases hs⟩)) (by intro kS s y G hk; (try dsimp only at hk); split at hk <;> cases hk) ?_
          simp only [List.take_succ_cons, List.take_zero, List.take_nil, List.drop_succ_cons, List.drop_zero, List.drop_nil]
          refine mx_calm rfl (want rfl) (fun u15 eu15 fu15 => rn_loadBlk ag_24 sz_24 rfl (Bs7.ext ((ext_drawn _).trans' eu15)) rfl rfl) ?_
          refine mx_calm rfl (want rfl) (fun u16 eu16 fu16 => rn_fieldAddr fa_24_0 rfl) ?_
          refine mx_calm rfl (want rfl) (fun u17 eu17 fu17 => rn_load1Blk ag_22 rfl ((((((((((B1.ext Eb2).ext Eb3).ext Eb4).ext E3).ext E4).ext Eb5).ne Es6 (by omega)).fr E5 (fun h => tn2_1 _ (.inl h) rfl)).ne Es7 (by omega)).ext ((ext_drawn _).trans' eu17)) rfl) ?_
          refine mx_calm rfl (want rfl) (fun u18 eu18 fu18 => rn_len Tryz.underlying22 rfl) ?_
          refine mx_val rfl (want rfl) (fun u19 eu19 fu19 => do_call (ent_func cf_61 (argsC (t_int rfl) args0)) (ref_ct _ u19) (fun _ _ E h => ⟨E, h⟩)) ?_
          refine mx_nil (fun w11 E6' H4 HS => ?_)
          have E6 := (ext_drawn _).trans' E6'
          have F18 := F17.ext E6
          have hz6 := E6.size
          refine lx_set (want rfl) sz_24 rfl (t_agg rfl) rfl rfl rfl ((((((((B3.ext Eb4).ext E3).ext E4).ext Eb5).ne Es6 (by omega)).fr E5 (fun h => tn2_3 _ (.inl h) rfl)).ne Es7 (by omega)).ext E6) (Nat.le_of_ble_eq_true rfl) ?_
          intro w12 Es8 Bs8
          have F19 := F18.set Es8 (by omega)
          have hzs8 := Es8.size
          refine lx_set (want rfl) sz_36 rfl (t_agg rfl) rfl rfl rfl ((((((((B4.ext E3).ext E4).ext Eb5).ne Es6 (by omega)).fr E5 (fun h => tn2_4 _ (.inl h) rfl)).ne Es7 (by omega)).ext E6).ne Es8 (by omega)) (Nat.le_of_ble_eq_true rfl) ?_
          intro w13 Es9 Bs9
          have F20 := F19.set Es9 (by omega)
          have hzs9 := Es9.size
          refine lx_value (want rfl) (as_int rfl) ?_
          refine lx_nil ?_
          refine wk_ret ?_
          refine retR3 Tryz.results88 (.cell rfl (run_loadVar_blk ag_24 sz_24 (Bs8.ne Es9 (by omega)) rfl rfl)) (.cell rfl (run_loadVar_blk ag_36 sz_36 Bs9 rfl rfl)) (.tmp (t_int rfl)) F20 ?_
          exact al_new h5 h1 (of_decide_eq_true hin) hl (memO_new ((((hTN.fr Es7 (fun k hk h => tn3_5 k hk h)).ext E6).fr Es8 (fun k hk h => tn3_3 k hk h)).fr Es9 (fun k hk h => tn3_4 k hk h)) (al_tab hTC he) rfl tg3)
      ·
        refine lx_value (want rfl) (rn_not rfl) ?_
        refine lx_value (want rfl) (as_bool rfl) ?_
        refine lx_nil ?_
        refine wk_cond_t rfl ?_
        refine wk_seq ?_
        refine wk_mix 2 (fun kS => match kS with | 1 => .val (.agg #[.int .u8 5, .int .i64 4]) | _ => .none) (by kernel_rfl) (by kernel_rfl) (by intro kS G hk; (try dsimp only at hk); (split at hk) <;> first | (cases hk; done) | (injection hk with hk; subst hk; exact ⟨by intro j hkj I v w w' hR hG; first | exact hG, fun ⟨_, _, _, _, hs⟩ => by (try dsimp only at hs); split at hs <;> cases hs⟩)) (by intro kS s y G hk; (try dsimp only at hk); split at hk <;> cases hk) ?_
        simp only [List.take_succ_cons, List.take_zero, List.take_nil, List.drop_succ_cons, List.drop_zero, List.drop_nil]
        refine mx_calm rfl (want rfl) (fun u20 eu20 fu20 => rn_loadBlk ag_24 sz_24 rfl (((((B1.ext Eb2).ext Eb3).ext Eb4).ext E3).ext ((ext_drawn _).trans' eu20)) rfl rfl) ?_
        refine mx_val rfl (want rfl) (fun u21 eu21 fu21 => do_call (ent_func cf_67 (argsC (t_int rfl) args0)) (refbad_ct _ u21) (fun _ _ E h => ⟨E, h⟩)) ?_
        refine mx_nil (fun w6 E7' H5 HS => ?_)
        have E7 := (ext_drawn _).trans' E7'
        have F21 := F10.ext E7
        have hz7 := E7.size
        refine lx_set (want rfl) sz_24 rfl (t_agg rfl) rfl rfl rfl (((B3.ext Eb4).ext E3).ext E7) (Nat.le_of_ble_eq_true rfl) ?_
        intro w7 Es10 Bs10
        have F22 := F21.set Es10 (by omega)
        have hzs10 := Es10.size
        refine lx_set (want rfl) sz_36 rfl (t_agg rfl) rfl rfl rfl (((B4.ext E3).ext E7).ne Es10 (by omega)) (Nat.le_of_ble_eq_true rfl) ?_
        intro w8 Es11 Bs11
        have F23 := F22.set Es11 (by omega)
        have hzs11 := Es11.size
        refine lx_value (want rfl) (as_int rfl) ?_
        refine lx_nil ?_
        refine wk_ret ?_
        refine retR3 Tryz.results88 (.cell rfl (run_loadVar_blk ag_24 sz_24 (Bs10.ne Es11 (by omega)) rfl rfl)) (.cell rfl (run_loadVar_blk ag_36 sz_36 Bs11 rfl rfl)) (.tmp (t_int rfl)) F23 ?_
        exact al_4 h5 h1 (of_decide_eq_false hin) (memO_old (hm.fr (st_stab _) F23 (fun _ _ h => h)))

end Go.Proofs.YtnhgfmbmfjmonaaGreatDoor

/- What functions compute: pwrite. -/
import Derived.Test.YtnhgfmbmfjmonaaGreatDoorNamesFacts
import Derived.Test.YtnhgfmbmfjmonaaGreatDoorNamesPre
import Derived.Test.YtnhgfmbmfjmonaaGreatDoorNamesWalk2
import Derived.Test.YtnhgfmbmfjmonaaGreatDoorNamesWalk4
set_option maxRecDepth 100000
set_option linter.unusedVariables false
set_option linter.unusedSimpArgs false
namespace Go.Proofs.YtnhgfmbmfjmonaaGreatDoor
open Go Go.RowKit Go.Mix Go.Eng
set_option maxRecDepth 100000 in
theorem pwrite_ct (Z : Nat → Prop) (b : Nat) (m : Mem) (tl : List Tl) (hok : okM m = true) (htl : tl.length ≤ 1000000000) (s2 ix : Vl) (hs : s2.1 = 4 → 0 ≤ s2.2 ∧ num s2 < m.length) (y : Vl) (w0 : World) (hM : MO Z w0 b m tl) :
  CT Tryz.prog 116 [.pointer (some ⟨b, 0, none⟩), .agg #[.int .u8 s2.1, .int .i64 s2.2], .agg #[.int .u8 ix.1, .int .i64 ix.2], .agg #[.int .u8 y.1, .int .i64 y.2]] w0 Z (fun v w => OutX Z w0.heap.size b m tl w v (writeR m s2 ix y)) := by
 obtain ⟨sM, cM, TM, stM, ctM, hT, hBm, hTm, hOm, hnb, hnt, hsep, hZb50, hZt1, hZo2, hZl⟩ := hM
 have hTl : TM.length = m.length := by have := congrArg List.length hT; simpa using this
 have hlb := hBm.lt
 have hBl := okM_Bm hok
 have hB1 := hBl.1
 have hw6 := (okM_iff.1 hok).2.2
 have F0 := Fr.refl Z w0
 have zt1 : ∀ k, mtb sM TM k → Z k ∨ w0.heap.size ≤ k := fun k h => .inl (hZt1 k h)
 have zo2 : ∀ k, ob stM k → Z k ∨ w0.heap.size ≤ k := fun k h => .inl (hZo2 k h)
 refine ct_body Tryz.func116 rfl Tryz.ntmps116 (Nat.le_of_ble_eq_true rfl) ?_
 refine wk_seq ?_
 refine wk_region ?_
 refine lx_new (want rfl) (rn_box (t_agg rfl)) ?_
 intro b21 w1 hb21 Eb21 B21 hlb21
 have F1 := F0.ext Eb21
 have hzb21 := Eb21.size
 have nb1 : ∀ k, ob stM k → k ≠ b21 := fun k hk => by have := (hOm).lt hk; omega
 have nb2 : ∀ k, mtb sM TM k → k ≠ b21 := fun k hk => by have := (hTm).lt hk; omega
 refine lx_new (want rfl) (rn_box (t_agg rfl)) ?_
 intro b22 w2 hb22 Eb22 B22 hlb22
 have F2 := F1.ext Eb22
 have hzb22 := Eb22.size
 have nb3 : ∀ k, ob stM k → k ≠ b22 := fun k hk => by have := (hOm).lt hk; omega
 have nb4 : ∀ k, mtb sM TM k → k ≠ b22 := fun k hk => by have := (hTm).lt hk; omega
 refine lx_new (want rfl) (rn_box (t_agg rfl)) ?_
 intro b23 w3 hb23 Eb23 B23 hlb23
 have F3 := F2.ext Eb23
 have hzb23 := Eb23.size
 have nb5 : ∀ k, ob stM k → k ≠ b23 := fun k hk => by have := (hOm).lt hk; omega
 have nb6 : ∀ k, mtb sM TM k → k ≠ b23 := fun k hk => by have := (hTm).lt hk; omega
 refine lx_new (want rfl) (rn_alloc ze_36) ?_
 intro b24 w4 hb24 Eb24 B24 hlb24
 have F4 := F3.ext Eb24
 have hzb24 := Eb24.size
 have nb7 : ∀ k, ob stM k → k ≠ b24 := fun k hk => by have := (hOm).lt hk; omega
 have nb8 : ∀ k, mtb sM TM k → k ≠ b24 := fun k hk => by have := (hTm).lt hk; omega
 refine lx_value (want rfl) (as_int rfl) ?_
 refine lx_nil ?_
 refine wk_seq ?_
 refine wk_region ?_
 refine lx_value (want rfl) (mv_pointer rfl) ?_
 refine lx_value (want rfl) (rn_loadBlk ag_36 sz_36 rfl (((B21.ext Eb22).ext Eb23).ext Eb24) rfl rfl) ?_
 refine lx_value (want rfl) (rn_loadBlk ag_36 sz_36 rfl ((B22.ext Eb23).ext Eb24) rfl rfl) ?_
 refine lx_call (want rfl) (ent_func cf_153 (argsC (t_pointer rfl) (argsC (t_agg rfl) (argsC (t_agg rfl) args0)))) (cell_ct m b sM cM TM _ stM _ ctM hBl s2 ix hs w4 ((((hBm.ext Eb21).ext Eb22).ext Eb23).ext Eb24) hT ((((hTm.ext Eb21).ext Eb22).ext Eb23).ext Eb24)) ?_
 rintro _ w5 E1 ⟨ad, rfl, hcn, hcs⟩
 have F5 := F4.ext E1
 have hz1 := E1.size
 refine lx_value (want rfl) (as_pointer rfl) ?_
 refine lx_nil ?_
 refine wk_seq ?_
 refine wk_block ?_
 refine wk_seq ?_
 refine wk_region ?_
 refine lx_value (want rfl) (mv_pointer rfl) ?_
 refine lx_value (want rfl) (rn_eqlP Tryz.underlying194 rfl rfl) ?_
 refine lx_split (fun hn => ?_) (fun hn => ?_)
 ·
  have hf : fitB m s2 ix = false := fit_not' hcn hn
  refine lx_value (want rfl) (as_bool rfl) ?_
  refine lx_nil ?_
  refine wk_cond_t rfl ?_
  refine wk_seq ?_
  refine wk_region ?_
  refine lx_call (want rfl) (ent_func cf_106 args0) (none_ct w5) ?_
  rintro _ w6 E2 rfl
  have F6 := F5.ext E2
  have hz2 := E2.size
  refine lx_set (want rfl) sz_36 rfl (t_agg rfl) rfl rfl rfl ((B24.ext E1).ext E2) (Nat.le_of_ble_eq_true rfl) ?_
  intro w7 Es1 Bs1
  have F7 := F6.set Es1 (by omega)
  have hzs1 := Es1.size
  refine lx_value (want rfl) (as_int rfl) ?_
  refine lx_nil ?_
  refine wk_ret ?_
  refine retR2 Tryz.results116 (.cell rfl (run_loadVar_blk ag_36 sz_36 Bs1 rfl rfl)) (.tmp (t_int rfl)) F7 ?_
  exact outx_old (wrX_no hf) rfl (mo_mk hT (((((((hBm.ext Eb21).ext Eb22).ext Eb23).ext Eb24).ext E1).ext E2).ne Es1 (by omega)) rfl rfl rfl (((((((hTm.ext Eb21).ext Eb22).ext Eb23).ext Eb24).ext E1).ext E2).fr Es1 (fun k hk h => nb8 k hk h)) (((((((hOm.ext Eb21).ext Eb22).ext Eb23).ext Eb24).ext E1).ext E2).ne Es1 (fun h => nb7 _ h rfl)) hnb hnt hsep (.inl hZb50) zt1 zo2)
 ·
  have hf : fitB m s2 ix = true := fit_yes' hcn hn
  obtain ⟨bA, oA, cA, sB, cB, x, hx, hsx, he, hnx, hni, rfl⟩ := hcs hf
  have hTo := (((((hTm.ext Eb21).ext Eb22).ext Eb23).ext Eb24).ext E1)
  obtain ⟨u, hu⟩ : ∃ u, x.1[num ix]? = some u := ⟨_, List.getElem?_eq_getElem hnx⟩
  have hBx := hBl.get hx
  obtain ⟨bT, oT, hsT, hcA, hcB⟩ := hTo.get he
  subst hsT
  have hltT := (List.getElem?_eq_some_iff.1 he).1
  obtain ⟨hs0, hsl⟩ := hs (by obtain ⟨_, _, _, _, _, g4, _⟩ := fit_at hf; exact g4)
  refine lx_value (want rfl) (as_bool rfl) ?_
  refine lx_nil ?_
  refine wk_cond_f rfl ?_
  refine wk_seq ?_
  refine wk_region ?_
  refine lx_value (want rfl) (mv_pointer rfl) ?_
  refine lx_value (want rfl) (rn_nilCheck rfl) ?_
  refine lx_value (want rfl) (rn_load2 ag_36 sz_36 rfl (vl_cell ((((((hTm.ext Eb21).ext Eb22).ext Eb23).ext Eb24).ext E1).ownA _ _ he) hu 0 _ rfl) (vl_cell ((((((hTm.ext Eb21).ext Eb22).ext Eb23).ext Eb24).ext E1).ownA _ _ he) hu 1 _ rfl)) ?_
  refine lx_call (want rfl) (ent_func cf_99 (argsC (t_agg rfl) args0)) (ishole_ct _ _ w5) ?_
  rintro _ w6 E3 rfl
  have F8 := F5.ext E3
  have hz3 := E3.size
  refine lx_split (fun h0d => ?_) (fun h0d => ?_)
  ·
   have h0d := of_decide_eq_true h0d
   refine lx_value (want rfl) (rn_not rfl) ?_
   refine lx_value (want rfl) (as_bool rfl) ?_
   refine lx_nil ?_
   refine wk_cond_f rfl ?_
   refine wk_skip ?_
   refine wk_seq ?_
   refine wk_region ?_
   refine lx_value (want rfl) (mv_pointer rfl) ?_
   refine lx_value (want rfl) (rn_loadBlk ag_36 sz_36 rfl (((B23.ext Eb24).ext E1).ext E3) rfl rfl) ?_
   refine lx_value (want rfl) (rn_nilCheck rfl) ?_
   have hM1 := ((((((hTm.ext Eb21).ext Eb22).ext Eb23).ext Eb24).ext E1).ext E3)
   refine lx_owncell (j := num ix * 2) (want rfl) sz_36 rfl (t_agg rfl) rfl rfl rfl (hM1.ownA _ _ he) (show num ix * 2 + 2 ≤ x.1.length * 2 by omega) ?_
   intro w7 E4' HO1
   have E4 : Fr (ob (some (⟨bA, oA, none⟩ : Addr))) _ _ := E4'.mono (fun i _ hi => ⟨_, _, by subst hi; rfl⟩)
   have F9 := F8.new' E4 (fun k h => zt1 k (.inr ⟨_, _, he, .inl h⟩))
   have hz4 := E4.size
   obtain ⟨tw1, ti1'⟩ := MTab.set (e' := (((some (⟨bA, oA, none⟩ : Addr)), cA, x.1.set (num ix) y), (sB, cB, x.2))) hM1 he (E4.mono (fun k _ h => .inl h)) (by show OwnS _ _ _ _ (List.set _ _ _).length _ ((List.set _ _ _).flatMap vlC); rw [flat_setV hnx, List.length_set]; exact HO1) ((hM1.ownB _ _ he).fr E4 (fun k h1 h2 => hM1.sepAB _ _ he k h2 h1)) (fun k h1 h2 => hM1.sepAB _ _ he k h1 h2) (fun k h => .inl h) (Fr.refl _ _) (by rw [flat_same he (by simp [SE.vs, TE.v])]; exact hM1.out.fr E4 (fun k h1 h2 => hM1.sep _ _ he k (.inl h2) h1))
   have ti1 : ∀ k, mtb (some (⟨bT, oT, none⟩ : Addr)) (TM.set (num s2) (((some (⟨bA, oA, none⟩ : Addr)), cA, x.1.set (num ix) y), (sB, cB, x.2))) k → (mtb (some (⟨bT, oT, none⟩ : Addr)) TM k ∨ w7.heap.size ≤ k) := fun k hk => (ti1' k hk).elim .inl (fun h => .inl (.inr ⟨_, _, he, h⟩))
   have tg1 : ∀ k, mtb (some (⟨bT, oT, none⟩ : Addr)) (TM.set (num s2) (((some (⟨bA, oA, none⟩ : Addr)), cA, x.1.set (num ix) y), (sB, cB, x.2))) k → Z k ∨ w0.heap.size ≤ k := fun k hk => (ti1 k hk).elim (zt1 k) (fun h => .inr (by omega))
   have tn1_50 : ∀ k, mtb (some (⟨bT, oT, none⟩ : Addr)) (TM.set (num s2) (((some (⟨bA, oA, none⟩ : Addr)), cA, x.1.set (num ix) y), (sB, cB, x.2))) k → k ≠ b := fun k hk => (ti1 k hk).elim (hnb k) (fun h => by have := (hBm).lt; omega)
   have tn1_21 : ∀ k, mtb (some (⟨bT, oT, none⟩ : Addr)) (TM.set (num s2) (((some (⟨bA, oA, none⟩ : Addr)), cA, x.1.set (num ix) y), (sB, cB, x.2))) k → k ≠ b21 := fun k hk => (ti1 k hk).elim (nb2 k) (fun h => by have := (B21).lt; omega)
   have tn1_22 : ∀ k, mtb (some (⟨bT, oT, none⟩ : Addr)) (TM.set (num s2) (((some (⟨bA, oA, none⟩ : Addr)), cA, x.1.set (num ix) y), (sB, cB, x.2))) k → k ≠ b22 := fun k hk => (ti1 k hk).elim (nb4 k) (fun h => by have := (B22).lt; omega)
   have tn1_23 : ∀ k, mtb (some (⟨bT, oT, none⟩ : Addr)) (TM.set (num s2) (((some (⟨bA, oA, none⟩ : Addr)), cA, x.1.set (num ix) y), (sB, cB, x.2))) k → k ≠ b23 := fun k hk => (ti1 k hk).elim (nb6 k) (fun h => by have := (B23).lt; omega)
   have tn1_24 : ∀ k, mtb (some (⟨bT, oT, none⟩ : Addr)) (TM.set (num s2) (((some (⟨bA, oA, none⟩ : Addr)), cA, x.1.set (num ix) y), (sB, cB, x.2))) k → k ≠ b24 := fun k hk => (ti1 k hk).elim (nb8 k) (fun h => by have := (B24).lt; omega)
   have ts1_2 : ∀ k, mtb (some (⟨bT, oT, none⟩ : Addr)) (TM.set (num s2) (((some (⟨bA, oA, none⟩ : Addr)), cA, x.1.set (num ix) y), (sB, cB, x.2))) k → ob stM k → False := fun k hk h2 => (ti1 k hk).elim (fun h => hsep k h h2) (fun h => by have := (hOm).lt h2; omega)
   have he2 : (TM.set (num s2) (((some (⟨bA, oA, none⟩ : Addr)), cA, x.1.set (num ix) y), (sB, cB, x.2)))[num s2]? = some (((some (⟨bA, oA, none⟩ : Addr)), cA, x.1.set (num ix) y), (sB, cB, x.2)) := List.getElem?_set_self hltT
   refine lx_nil ?_
   refine wk_seq ?_
   refine wk_mix 6 (fun _ => .none) (by kernel_rfl) (by kernel_rfl) (fun kS G hk => by cases hk) (fun kS s y G hk => by cases hk) ?_
   simp only [List.take_succ_cons, List.take_zero, List.take_nil, List.drop_succ_cons, List.drop_zero, List.drop_nil]
   refine mx_calm rfl (want rfl) (fun u1 eu1 fu1 => mv_pointer rfl) ?_
   refine mx_calm rfl (want rfl) (fun u2 eu2 fu2 => rn_nilCheck rfl) ?_
   refine mx_calm rfl (want rfl) (fun u3 eu3 fu3 => rn_fieldAddr fa_113_0 rfl) ?_
   refine mx_calm rfl (want rfl) (fun u4 eu4 fu4 => rn_load1Blk ag_22 rfl ((((((((hBm.ext Eb21).ext Eb22).ext Eb23).ext Eb24).ext E1).ext E3).fr E4 (fun h => hnb _ (.inr ⟨_, _, he, .inl h⟩) rfl)).ext ((ext_drawn _).trans' eu4)) rfl) ?_
   refine mx_calm rfl (want rfl) (fun u5 eu5 fu5 => rn_fieldAddr fa_36_1 rfl) ?_
   refine mx_calm rfl (want rfl) (fun u6 eu6 fu6 => rn_load1Blk ag_3 rfl (((((((B21.ext Eb22).ext Eb23).ext Eb24).ext E1).ext E3).fr E4 (fun h => nb2 _ (.inr ⟨_, _, he, .inl h⟩) rfl)).ext ((ext_drawn _).trans' eu6)) rfl) ?_
   refine mx_nil (fun w8 E5' H1 HS => ?_)
   have E5 := (ext_drawn _).trans' E5'
   have F10 := F9.ext E5
   have hz5 := E5.size
   refine lx_value (want rfl) (rn_index (num s2) Tryz.underlying22 sz_65 rfl rfl (by unfold num; omega) hltT) ?_
   refine lx_value (want rfl) (as_pointer rfl) ?_
   refine lx_nil ?_
   refine wk_seq ?_
   refine wk_region ?_
   refine lx_value (want rfl) (as_slice rfl) ?_
   refine lx_nil ?_
   refine wk_seq ?_
   refine wk_seq ?_
   refine wk_region ?_
   refine lx_value (want rfl) (mv_pointer rfl) ?_
   refine lx_value (want rfl) (rn_nilCheck rfl) ?_
   refine lx_value (want rfl) (rn_fieldAddr fa_65_1 rfl) ?_
   refine lx_value (want rfl) (rn_load1 ag_63 rfl (show _ = some (Value.slice sB x.2.length cB) from MTab.cellB (tw1.ext E5) he2)) ?_
   refine lx_value (want rfl) (rn_len Tryz.underlying63 rfl) ?_
   refine lx_value (want rfl) (mv_int rfl) ?_
   refine lx_nil ?_
   refine wk_block ?_
   refine wk_loopA [12, 14, 45, 46, 47, 48, 49, 50, 51, 52, 53, 54, 55, 56, 57, 58, 59, 60, 61, 62, 63, 64, 65, 66, 67, 68, 69, 70, 71, 72, 73, 74, 75, 76, 77, 78] (fun kq => kq = b ∨ ob stM kq) (fun nM ρ w => ∃ (i : Nat) (so1_2 : Option Addr) (co1_2 : Nat) (so1_3 : Option Addr) (co1_3 : Nat), nM = x.2.length - i ∧ ρ 45 = .int .i64 i ∧ Blk w b [.slice (some ⟨bT, oT, none⟩) TM.length cM, .int .i64 (((waits m : Nat) : Int) - ((toldW x.2 ix.2 y i).length : Int)), .slice so1_2 (tl ++ toldW x.2 ix.2 y i).length co1_2] 113 ∧ OwnS w 106 3 so1_2 ((tl ++ toldW x.2 ix.2 y i).length) co1_2 ((tl ++ toldW x.2 ix.2 y i).flatMap tlC) ∧ (∀ k, ob so1_2 k → Z k ∨ w0.heap.size ≤ k) ∧ (∀ k, ob so1_2 k → (ob stM k ∨ w8.heap.size ≤ k)) ∧ ρ 12 = .slice so1_3 ((restW x.2 ix.2 i).length) co1_3 ∧ OwnS w 115 2 so1_3 ((restW x.2 ix.2 i).length) co1_3 ((restW x.2 ix.2 i).flatMap rdC) ∧ (∀ k, ob so1_3 k → Z k ∨ w0.heap.size ≤ k) ∧ (∀ k, ob so1_3 k → (ob (none : Option Addr) k ∨ w8.heap.size ≤ k)) ∧ (∀ k, ob so1_2 k → ob so1_3 k → False) ∧ (i ≤ x.2.length)) _ ⟨0, stM, ctM, none, 0, rfl, rfl, (told_box0 ((((((((hBm.ext Eb21).ext Eb22).ext Eb23).ext Eb24).ext E1).ext E3).fr E4 (fun h => hnb _ (.inr ⟨_, _, he, .inl h⟩) rfl)).ext E5) x.2 ix.2 y), (by rw [toldW_0, List.append_nil]; exact ((((((((hOm.ext Eb21).ext Eb22).ext Eb23).ext Eb24).ext E1).ext E3).fr E4 (fun k h1 h => hsep k (.inr ⟨_, _, he, .inl h⟩) h1)).ext E5)), zo2, (fun k h => .inl h), rfl, (OwnS.nil w8 115 2), (fun _ h => ob_none h), (fun k h => .inl h), (fun _ _ h => ob_none h), by omega⟩ ?_
   rintro n1 ρ1 w9 A1 EL1 ⟨i, so1_2, co1_2, so1_3, co1_3, rfl, hs1_45, BL1_50, ow1L_2, ge1L_2, bk1L_2, ho1_3, ow1L_3, ge1L_3, bk1L_3, sp1L_2_3, hi⟩
   have F11 := F10.new' EL1 (fun i => (fun h => h.elim (fun h => by rw [h]; exact (.inl hZb50)) (fun h => (zo2 _) h)))
   have hzL1 := EL1.size
   have nl1_2_50 : ∀ k, ob so1_2 k → k ≠ b := fun k hk => (bk1L_2 k hk).elim (hnt k) (fun h => by have := (((((((((hBm.ext Eb21).ext Eb22).ext Eb23).ext Eb24).ext E1).ext E3).fr E4 (fun h => hnb _ (.inr ⟨_, _, he, .inl h⟩) rfl)).ext E5)).lt; omega)
   have nl1_2_21 : ∀ k, ob so1_2 k → k ≠ b21 := fun k hk => (bk1L_2 k hk).elim (nb1 k) (fun h => by have := ((((((((B21.ext Eb22).ext Eb23).ext Eb24).ext E1).ext E3).fr E4 (fun h => nb2 _ (.inr ⟨_, _, he, .inl h⟩) rfl)).ext E5)).lt; omega)
   have nl1_2_22 : ∀ k, ob so1_2 k → k ≠ b22 := fun k hk => (bk1L_2 k hk).elim (nb3 k) (fun h => by have := (((((((B22.ext Eb23).ext Eb24).ext E1).ext E3).fr E4 (fun h => nb4 _ (.inr ⟨_, _, he, .inl h⟩) rfl)).ext E5)).lt; omega)
   have nl1_2_23 : ∀ k, ob so1_2 k → k ≠ b23 := fun k hk => (bk1L_2 k hk).elim (nb5 k) (fun h => by have := ((((((B23.ext Eb24).ext E1).ext E3).fr E4 (fun h => nb6 _ (.inr ⟨_, _, he, .inl h⟩) rfl)).ext E5)).lt; omega)
   have nl1_2_24 : ∀ k, ob so1_2 k → k ≠ b24 := fun k hk => (bk1L_2 k hk).elim (nb7 k) (fun h => by have := (((((B24.ext E1).ext E3).fr E4 (fun h => nb8 _ (.inr ⟨_, _, he, .inl h⟩) rfl)).ext E5)).lt; omega)
   have nl1_3_50 : ∀ k, ob so1_3 k → k ≠ b := fun k hk => (bk1L_3 k hk).elim ((fun _ h => ob_none h) k) (fun h => by have := (((((((((hBm.ext Eb21).ext Eb22).ext Eb23).ext Eb24).ext E1).ext E3).fr E4 (fun h => hnb _ (.inr ⟨_, _, he, .inl h⟩) rfl)).ext E5)).lt; omega)
   have nl1_3_21 : ∀ k, ob so1_3 k → k ≠ b21 := fun k hk => (bk1L_3 k hk).elim ((fun _ h => ob_none h) k) (fun h => by have := ((((((((B21.ext Eb22).ext Eb23).ext Eb24).ext E1).ext E3).fr E4 (fun h => nb2 _ (.inr ⟨_, _, he, .inl h⟩) rfl)).ext E5)).lt; omega)
   have nl1_3_22 : ∀ k, ob so1_3 k → k ≠ b22 := fun k hk => (bk1L_3 k hk).elim ((fun _ h => ob_none h) k) (fun h => by have := (((((((B22.ext Eb23).ext Eb24).ext E1).ext E3).fr E4 (fun h => nb4 _ (.inr ⟨_, _, he, .inl h⟩) rfl)).ext E5)).lt; omega)
   have nl1_3_23 : ∀ k, ob so1_3 k → k ≠ b23 := fun k hk => (bk1L_3 k hk).elim ((fun _ h => ob_none h) k) (fun h => by have := ((((((B23.ext Eb24).ext E1).ext E3).fr E4 (fun h => nb6 _ (.inr ⟨_, _, he, .inl h⟩) rfl)).ext E5)).lt; omega)
   have nl1_3_24 : ∀ k, ob so1_3 k → k ≠ b24 := fun k hk => (bk1L_3 k hk).elim ((fun _ h => ob_none h) k) (fun h => by have := (((((B24.ext E1).ext E3).fr E4 (fun h => nb8 _ (.inr ⟨_, _, he, .inl h⟩) rfl)).ext E5)).lt; omega)
   have stl1_1_2 : ∀ k, mtb (some (⟨bT, oT, none⟩ : Addr)) (TM.set (num s2) (((some (⟨bA, oA, none⟩ : Addr)), cA, x.1.set (num ix) y), (sB, cB, x.2))) k → ob so1_2 k → False := fun k hk h2 => (bk1L_2 k h2).elim (fun h => ts1_2 k hk h) (fun h => by have := ((tw1.ext E5)).lt hk; omega)
   have stl1_1_3 : ∀ k, mtb (some (⟨bT, oT, none⟩ : Addr)) (TM.set (num s2) (((some (⟨bA, oA, none⟩ : Addr)), cA, x.1.set (num ix) y), (sB, cB, x.2))) k → ob so1_3 k → False := fun k hk h2 => (bk1L_3 k h2).elim (fun h => (fun _ _ h => ob_none h) k hk h) (fun h => by have := ((tw1.ext E5)).lt hk; omega)
   refine wk_seq ?_
   refine wk_region ?_
   refine lx_value (want rfl) (rn_lss hs1_45 (A1.at 44 rfl rfl)) ?_
   refine lx_dec (fun hlt2 => ?_) (fun hlt2 => ?_)
   ·
    obtain ⟨r, hr⟩ := getx hlt2
    obtain ⟨bB, oB, hsB⟩ := own_some (((tw1.ext E5).fr EL1 (fun k h1 => (fun h => h.elim (fun h => tn1_50 _ h1 h) (fun h => (fun h => ts1_2 _ h1 h) h)))).ownB _ _ he2) (show 0 < x.2.length by omega)
    have hl1 := toldW_len x.2 ix.2 y i
    have hl2 := restW_len x.2 ix.2 i
    have hla : (tl ++ toldW x.2 ix.2 y i).length = tl.length + (toldW x.2 ix.2 y i).length := List.length_append
    refine lx_nil ?_
    refine wk_seq ?_
    refine wk_cond_t rfl ?_
    refine wk_skip ?_
    refine wk_seq ?_
    refine wk_block ?_
    refine wk_seq ?_
    refine wk_region ?_
    refine lx_value (want rfl) (rn_index i Tryz.underlying63 sz_115 ((show _ = Value.slice sB x.2.length cB from (A1.at 43 rfl rfl)).trans (congrArg (fun q => Value.slice q x.2.length cB) hsB)) hs1_45 rfl (by omega)) ?_
    refine lx_value (want rfl) (rn_load2 ag_115 sz_115 rfl (rd_cell (((tw1.ext E5).fr EL1 (fun k h1 => (fun h => h.elim (fun h => tn1_50 _ h1 h) (fun h => (fun h => ts1_2 _ h1 h) h)))).ownB _ _ he2) hsB hr 0 _ rfl) (rd_cell (((tw1.ext E5).fr EL1 (fun k h1 => (fun h => h.elim (fun h => tn1_50 _ h1 h) (fun h => (fun h => ts1_2 _ h1 h) h)))).ownB _ _ he2) hsB hr 1 _ rfl)) ?_
    refine lx_new (want rfl) (rn_alloc ze_115) ?_
    intro b25 w10 hb25 Eb25 B25 hlb25
    have F12 := F11.ext Eb25
    have hzb25 := Eb25.size
    have nb9 : ∀ k, ob so1_2 k → k ≠ b25 := fun k hk => by have := (ow1L_2).lt hk; omega
    have nb10 : ∀ k, ob so1_3 k → k ≠ b25 := fun k hk => by have := (ow1L_3).lt hk; omega
    have nb11 : ∀ k, mtb (some (⟨bT, oT, none⟩ : Addr)) (TM.set (num s2) (((some (⟨bA, oA, none⟩ : Addr)), cA, x.1.set (num ix) y), (sB, cB, x.2))) k → k ≠ b25 := fun k hk => by have := (tw1).lt hk; omega
    refine lx_set (want rfl) sz_115 rfl (t_agg rfl) rfl rfl rfl B25 (Nat.le_of_ble_eq_true rfl) ?_
    intro w11 Es2 Bs2
    have F13 := F12.set Es2 (by omega)
    have hzs2 := Es2.size
    refine lx_nil ?_
    refine wk_seq ?_
    refine wk_seq ?_
    refine wk_region ?_
    refine lx_value (want rfl) (rn_fieldAddr fa_115_0 rfl) ?_
    refine lx_value (want rfl) (rn_load1Blk ag_3 rfl Bs2 rfl) ?_
    refine lx_value (want rfl) (rn_fieldAddr fa_36_1 (A1.at 6 rfl rfl)) ?_
    refine lx_value (want rfl) (rn_load1Blk ag_3 rfl (((((((((B22.ext Eb23).ext Eb24).ext E1).ext E3).fr E4 (fun h => nb4 _ (.inr ⟨_, _, he, .inl h⟩) rfl)).ext E5).fr EL1 (fun h => h.elim (fun h => absurd h (by omega)) (fun h => (fun h => nb3 _ h rfl) h))).ext Eb25).ne Es2 (by omega)) rfl) ?_
    refine lx_value (want rfl) (rn_neq rfl rfl) ?_
    refine lx_dec (fun h70 => ?_) (fun h70 => ?_)
    ·
     have hq1 := toldW_n (y := y) hr h70
     have hq2 := restW_y hr h70
     refine lx_nil ?_
     refine wk_cond_t rfl ?_
     refine wk_seq ?_
     refine wk_region ?_
     refine lx_value (want rfl) (mv_slice ho1_3) ?_
     refine lx_value (want rfl) (rn_loadBlk ag_115 sz_115 rfl Bs2 rfl rfl) ?_
     refine lx_newS (want rfl) (rn_bslice (xs := [.tmp 55]) Tryz.underlying63 sz_115 ze_115 rfl (argsC (t_agg rfl) args0) (CL.cons rfl rfl CL.nil) rfl (Nat.le_of_ble_eq_true rfl)) ?_
     intro b26 w12 hb26 Eb26 B26 hlb26
     have F14 := F13.ext Eb26
     have hzb26 := Eb26.size
     have nb12 : ∀ k, ob so1_2 k → k ≠ b26 := fun k hk => by have := (ow1L_2).lt hk; omega
     have nb13 : ∀ k, ob so1_3 k → k ≠ b26 := fun k hk => by have := (ow1L_3).lt hk; omega
     have nb14 : ∀ k, mtb (some (⟨bT, oT, none⟩ : Addr)) (TM.set (num s2) (((some (⟨bA, oA, none⟩ : Addr)), cA, x.1.set (num ix) y), (sB, cB, x.2))) k → k ≠ b26 := fun k hk => by have := (tw1).lt hk; omega
     refine lx_append 16 (want rfl) Tryz.underlying63 ti_115 (by decide) rfl (by decide) rfl rfl (((ow1L_3.ext Eb25).ne Es2 (fun h => nb10 _ h rfl)).ext Eb26) ((Src.blk B26 rfl rfl)) (by omega) ?_
     intro sq3 cq3 w13 AP3
     have EA3 := AP3.fr
     have ow3 := AP3.own
     have ge3 : ∀ k, ob sq3 k → Z k ∨ w0.heap.size ≤ k := fun k hk => (AP3.blk k hk).elim (ge1L_3 k) (fun h => .inr (Nat.le_trans F14.size h))
     have ne3_50 : ∀ k, ob sq3 k → k ≠ b := fun k hk => (AP3.blk k hk).elim (nl1_3_50 k) (fun h => by have := ((((BL1_50.ext Eb25).ne Es2 (by omega)).ext Eb26)).lt; omega)
     have ne3_21 : ∀ k, ob sq3 k → k ≠ b21 := fun k hk => (AP3.blk k hk).elim (nl1_3_21 k) (fun h => by have := ((((((((((((B21.ext Eb22).ext Eb23).ext Eb24).ext E1).ext E3).fr E4 (fun h => nb2 _ (.inr ⟨_, _, he, .inl h⟩) rfl)).ext E5).fr EL1 (fun h => h.elim (fun h => absurd h (by omega)) (fun h => (fun h => nb1 _ h rfl) h))).ext Eb25).ne Es2 (by omega)).ext Eb26)).lt; omega)
     have ne3_22 : ∀ k, ob sq3 k → k ≠ b22 := fun k hk => (AP3.blk k hk).elim (nl1_3_22 k) (fun h => by have := (((((((((((B22.ext Eb23).ext Eb24).ext E1).ext E3).fr E4 (fun h => nb4 _ (.inr ⟨_, _, he, .inl h⟩) rfl)).ext E5).fr EL1 (fun h => h.elim (fun h => absurd h (by omega)) (fun h => (fun h => nb3 _ h rfl) h))).ext Eb25).ne Es2 (by omega)).ext Eb26)).lt; omega)
     have ne3_23 : ∀ k, ob sq3 k → k ≠ b23 := fun k hk => (AP3.blk k hk).elim (nl1_3_23 k) (fun h => by have := ((((((((((B23.ext Eb24).ext E1).ext E3).fr E4 (fun h => nb6 _ (.inr ⟨_, _, he, .inl h⟩) rfl)).ext E5).fr EL1 (fun h => h.elim (fun h => absurd h (by omega)) (fun h => (fun h => nb5 _ h rfl) h))).ext Eb25).ne Es2 (by omega)).ext Eb26)).lt; omega)
     have ne3_24 : ∀ k, ob sq3 k → k ≠ b24 := fun k hk => (AP3.blk k hk).elim (nl1_3_24 k) (fun h => by have := (((((((((B24.ext E1).ext E3).fr E4 (fun h => nb8 _ (.inr ⟨_, _, he, .inl h⟩) rfl)).ext E5).fr EL1 (fun h => h.elim (fun h => absurd h (by omega)) (fun h => (fun h => nb7 _ h rfl) h))).ext Eb25).ne Es2 (by omega)).ext Eb26)).lt; omega)
     have ne3_25 : ∀ k, ob sq3 k → k ≠ b25 := fun k hk => (AP3.blk k hk).elim (nb10 k) (fun h => by have := ((Bs2.ext Eb26)).lt; omega)
     have ne3_26 : ∀ k, ob sq3 k → k ≠ b26 := fun k hk => (AP3.blk k hk).elim (nb13 k) (fun h => by have := (B26).lt; omega)
     have sp3_2 : ∀ k, ob sq3 k → ob so1_2 k → False := fun k hk h2 => (AP3.blk k hk).elim (fun h => (fun k h1 h2 => sp1L_2_3 k h2 h1) k h h2) (fun h => by have := ((((ow1L_2.ext Eb25).ne Es2 (fun h => nb9 _ h rfl)).ext Eb26)).lt h2; omega)
     have bk3_1 : ∀ k, ob sq3 k → (ob (none : Option Addr) k ∨ w8.heap.size ≤ k) := fun k hk => (AP3.blk k hk).elim (bk1L_3 k) (fun h => .inr (by omega))
     have F15 := F14.new' EA3 ge1L_3
     have hzA3 := EA3.size
     have BA3_50 := (((BL1_50.ext Eb25).ne Es2 (by omega)).ext Eb26).fr EA3 (fun h => nl1_3_50 _ h rfl)
     have BA3_21 := (((((((((((B21.ext Eb22).ext Eb23).ext Eb24).ext E1).ext E3).fr E4 (fun h => nb2 _ (.inr ⟨_, _, he, .inl h⟩) rfl)).ext E5).fr EL1 (fun h => h.elim (fun h => absurd h (by omega)) (fun h => (fun h => nb1 _ h rfl) h))).ext Eb25).ne Es2 (by omega)).ext Eb26).fr EA3 (fun h => nl1_3_21 _ h rfl)
     have BA3_22 := ((((((((((B22.ext Eb23).ext Eb24).ext E1).ext E3).fr E4 (fun h => nb4 _ (.inr ⟨_, _, he, .inl h⟩) rfl)).ext E5).fr EL1 (fun h => h.elim (fun h => absurd h (by omega)) (fun h => (fun h => nb3 _ h rfl) h))).ext Eb25).ne Es2 (by omega)).ext Eb26).fr EA3 (fun h => nl1_3_22 _ h rfl)
     have BA3_23 := (((((((((B23.ext Eb24).ext E1).ext E3).fr E4 (fun h => nb6 _ (.inr ⟨_, _, he, .inl h⟩) rfl)).ext E5).fr EL1 (fun h => h.elim (fun h => absurd h (by omega)) (fun h => (fun h => nb5 _ h rfl) h))).ext Eb25).ne Es2 (by omega)).ext Eb26).fr EA3 (fun h => nl1_3_23 _ h rfl)
     have BA3_24 := ((((((((B24.ext E1).ext E3).fr E4 (fun h => nb8 _ (.inr ⟨_, _, he, .inl h⟩) rfl)).ext E5).fr EL1 (fun h => h.elim (fun h => absurd h (by omega)) (fun h => (fun h => nb7 _ h rfl) h))).ext Eb25).ne Es2 (by omega)).ext Eb26).fr EA3 (fun h => nl1_3_24 _ h rfl)
     have BA3_25 := (Bs2.ext Eb26).fr EA3 (fun h => nb10 _ h rfl)
     have BA3_26 := B26.fr EA3 (fun h => nb13 _ h rfl)
     have oA3_2 := (((ow1L_2.ext Eb25).ne Es2 (fun h => nb9 _ h rfl)).ext Eb26).fr EA3 (fun k h1 h2 => (fun k h1 h2 => sp1L_2_3 k h2 h1) k h2 h1)
     have sr3_2 : ∀ k, ob so1_2 k → ob sq3 k → False := fun k h1 h2 => sp3_2 k h2 h1
     have sa3_1 : ∀ k, mtb (some (⟨bT, oT, none⟩ : Addr)) (TM.set (num s2) (((some (⟨bA, oA, none⟩ : Addr)), cA, x.1.set (num ix) y), (sB, cB, x.2))) k → ob sq3 k → False := fun k hk h2 => (AP3.blk k h2).elim (fun h => stl1_1_3 k hk h) (fun h => by have := ((((((tw1.ext E5).fr EL1 (fun k h1 => (fun h => h.elim (fun h => tn1_50 _ h1 h) (fun h => (fun h => ts1_2 _ h1 h) h)))).ext Eb25).fr Es2 (fun k hk h => nb11 k hk h)).ext Eb26)).lt hk; omega)
     refine lx_value (want rfl) (as_slice rfl) ?_
     refine lx_nil ?_
     refine wk_exit ?_
     refine wk_region ?_
     refine lx_value (want rfl) (rn_add hs1_45 rfl (by omega)) ?_
     refine lx_value (want rfl) (mv_int rfl) ?_
     refine lx_nil ?_
     exact ⟨rfl, (((((((((((((((((A1.up rfl _).up rfl _).up rfl _).up rfl _).none _).up rfl _).up rfl _).up rfl _).up rfl _).up rfl _).up rfl _).up rfl _).up rfl _).up rfl _).up rfl _).up rfl _).up rfl _), (Fr.trans (Fr.ext (Fr.trans (Fr.ext EL1 Eb25) Es2 (fun i hi1 h => (absurd hi1 (by omega)))) Eb26) EA3 (fun i hi1 h => ((bk1L_3 _ h).elim (fun h => (ob_none h)) (fun h => absurd hi1 (by omega))))), _, (by omega), i + 1, so1_2, co1_2, sq3, cq3, rfl, rfl, (by rw [hq1]; first | exact told_box BA3_50 | exact BA3_50), (by rw [hq1]; first | exact told_own oA3_2 rfl | exact oA3_2), ge1L_2, bk1L_2, (by rw [hq2]; first | exact rfl | (rw [List.length_append]; exact rfl)), (by rw [hq2]; first | exact ow3 | exact own_more ow3 rfl), ge3, bk3_1, sr3_2, by have := (List.getElem?_eq_some_iff.1 hr).1; omega⟩
    ·
     have hq1 := toldW_y (y := y) hr (Decidable.not_not.1 h70)
     have hq2 := restW_n hr (Decidable.not_not.1 h70)
     refine lx_nil ?_
     refine wk_cond_f rfl ?_
     refine wk_skip ?_
     refine wk_seq ?_
     have hOw := ((ow1L_2.ext Eb25).ne Es2 (fun h => nb9 _ h rfl))
     have hSl : ∀ k, (ob so1_2) k → k < w11.heap.size := fun k h => (((ow1L_2.ext Eb25).ne Es2 (fun h => nb9 _ h rfl))).lt h
     refine wk_mixA 11 10 (ob so1_2) (fun kS => match kS with | 9 => .any (fun I v w => ∃ b, v = .slice (some ⟨b, 0, none⟩) 1 1 ∧ w11.heap.size ≤ b ∧ (I.1 ≤ b ∧ b < I.2) ∧ Blk w b [.int .i64 r.2, .int .u8 y.1, .int .i64 y.2] 106) | 10 => .any (fun I v w => ∃ s c, v = .slice s ((tl ++ toldW x.2 ix.2 y i).length + 1) c ∧ OwnS w 106 3 s ((tl ++ toldW x.2 ix.2 y i).length + 1) c (((tl ++ toldW x.2 ix.2 y i).flatMap tlC) ++ [.int .i64 r.2, .int .u8 y.1, .int .i64 y.2]) ∧ ∀ k, ob s k → (ob so1_2 k ∨ w11.heap.size ≤ k)) | _ => .none) (by kernel_rfl) (by kernel_rfl) (by intro kS G hk; (try dsimp only at hk); (split at hk) <;> first | (cases hk; done) | (injection hk with hk; subst hk; exact ⟨by intro j hkj I v w w' hR hG; first | exact hG | (obtain ⟨b, h1, h2, hI, h3⟩ := hG; exact ⟨b, h1, h2, hI, h3.fr (mS hR) (fun hs => by have := hOw.lt hs; omega)⟩) | (obtain ⟨s, c, h1, h2, h3⟩ := hG; exact ⟨s, c, h1, h2.ext (mT hkj hR), h3⟩), fun ⟨_, _, _, _, hs⟩ => by (try dsimp only at hs); split at hs <;> cases hs⟩)) (by intro kS s y G hk; (try dsimp only at hk); split at hk <;> cases hk) ?_
     simp only [List.take_succ_cons, List.take_zero, List.take_nil, List.drop_succ_cons, List.drop_zero, List.drop_nil]
     refine mx_calm rfl (want rfl) (fun u7 eu7 fu7 => mv_pointer (A1.at 0 rfl rfl)) ?_
     refine mx_calm rfl (want rfl) (fun u8 eu8 fu8 => mv_pointer (A1.at 0 rfl rfl)) ?_
     refine mx_calm rfl (want rfl) (fun u9 eu9 fu9 => rn_nilCheck rfl) ?_
     refine mx_calm rfl (want rfl) (fun u10 eu10 fu10 => rn_fieldAddr fa_113_2 rfl) ?_
     refine mx_calm rfl (want rfl) (fun u11 eu11 fu11 => rn_load1Blk ag_31 rfl (((BL1_50.ext Eb25).ne Es2 (by omega)).fr (mD (by decide) eu11) (fun h => nl1_2_50 _ h rfl)) rfl) ?_
     refine mx_calm rfl (want rfl) (fun u12 eu12 fu12 => rn_fieldAddr fa_115_1 rfl) ?_
     refine mx_calm rfl (want rfl) (fun u13 eu13 fu13 => rn_load1Blk ag_3 rfl (Bs2.fr (mD (by decide) eu13) (fun h => nb9 _ h rfl)) rfl) ?_
     refine mx_calm rfl (want rfl) (fun u14 eu14 fu14 => rn_loadBlk ag_36 sz_36 (A1.at 7 rfl rfl) (((((((((B23.ext Eb24).ext E1).ext E3).fr E4 (fun h => nb6 _ (.inr ⟨_, _, he, .inl h⟩) rfl)).ext E5).fr EL1 (fun h => h.elim (fun h => absurd h (by omega)) (fun h => (fun h => nb5 _ h rfl) h))).ext Eb25).ne Es2 (by omega)).fr (mD (by decide) eu14) (fun h => nl1_2_23 _ h rfl)) rfl rfl) ?_
     refine mx_calm rfl (want rfl) (fun u15 eu15 fu15 => rn_build2 (t_int rfl) (t_agg rfl) (fun w => bd_106_0_1 _ _ _ w)) ?_
     refine mx_any rfl rfl (want rfl) (fun u16 eu16 fu16 => (do_newS2 (rn_bslice (xs := [.tmp 66]) Tryz.underlying31 sz_106 ze_106 rfl (argsC (t_agg rfl) args0) (CL.cons rfl rfl CL.nil) rfl (Nat.le_of_ble_eq_true rfl)) (show _ ≤ _ from ((mD (by decide) eu16)).size)).mono (fun v w' h => ⟨(mE (by decide) h.1), h.2⟩)) (fun I67 v67 => ?_)
     refine mx_any rfl rfl (want rfl) (fun u17 eu17 fu17 => by obtain ⟨bS, rfl, hbS, _, hBS⟩ := fu17 67 _ rfl (show (67 : Nat) ∈ _ from by decide); exact do_append 24 Tryz.underlying31 ti_106 (by decide) rfl (by decide) rfl rfl (((ow1L_2.ext Eb25).ne Es2 (fun h => nb9 _ h rfl)).ext (mC eu17)) (Src.blk hBS rfl rfl) (by omega) (fun sA cA wA AP => ⟨(mF AP.fr), ⟨sA, cA, rfl, AP.own, fun k hk => (AP.blk k hk).elim .inl (fun h => .inr (Nat.le_trans (mC eu17).size h))⟩⟩)) (fun I68 v68 => ?_)
     refine mx_nil (fun w12 E6' H2 HS => ?_)
     have E6 := mG E6'
     have hI68 := (HS.1 68 _ rfl).2
     have hI67 := (HS.1 67 _ rfl).2
     have hX68_67 := HS.2 68 _ 67 _ rfl rfl (show (68 : Nat) ≠ 67 from by decide)
     simp only at hI68
     simp only at hI67
     simp only at hX68_67
     have g68 := H2 68 _ rfl
     obtain ⟨sq4, cq4, rfl, hO4, hI4⟩ := g68
     have g67 := H2 67 _ rfl
     have AP4 : Apd w11 _ _ so1_2 _ _ sq4 cq4 w12 := ⟨hO4, E6, hI4⟩
     have EA4 := AP4.fr
     have ow4 := AP4.own
     have ge4 : ∀ k, ob sq4 k → Z k ∨ w0.heap.size ≤ k := fun k hk => (AP4.blk k hk).elim (ge1L_2 k) (fun h => .inr (Nat.le_trans F13.size h))
     have ne4_50 : ∀ k, ob sq4 k → k ≠ b := fun k hk => (AP4.blk k hk).elim (nl1_2_50 k) (fun h => by have := (((BL1_50.ext Eb25).ne Es2 (by omega))).lt; omega)
     have ne4_21 : ∀ k, ob sq4 k → k ≠ b21 := fun k hk => (AP4.blk k hk).elim (nl1_2_21 k) (fun h => by have := (((((((((((B21.ext Eb22).ext Eb23).ext Eb24).ext E1).ext E3).fr E4 (fun h => nb2 _ (.inr ⟨_, _, he, .inl h⟩) rfl)).ext E5).fr EL1 (fun h => h.elim (fun h => absurd h (by omega)) (fun h => (fun h => nb1 _ h rfl) h))).ext Eb25).ne Es2 (by omega))).lt; omega)
     have ne4_22 : ∀ k, ob sq4 k → k ≠ b22 := fun k hk => (AP4.blk k hk).elim (nl1_2_22 k) (fun h => by have := ((((((((((B22.ext Eb23).ext Eb24).ext E1).ext E3).fr E4 (fun h => nb4 _ (.inr ⟨_, _, he, .inl h⟩) rfl)).ext E5).fr EL1 (fun h => h.elim (fun h => absurd h (by omega)) (fun h => (fun h => nb3 _ h rfl) h))).ext Eb25).ne Es2 (by omega))).lt; omega)
     have ne4_23 : ∀ k, ob sq4 k → k ≠ b23 := fun k hk => (AP4.blk k hk).elim (nl1_2_23 k) (fun h => by have := (((((((((B23.ext Eb24).ext E1).ext E3).fr E4 (fun h => nb6 _ (.inr ⟨_, _, he, .inl h⟩) rfl)).ext E5).fr EL1 (fun h => h.elim (fun h => absurd h (by omega)) (fun h => (fun h => nb5 _ h rfl) h))).ext Eb25).ne Es2 (by omega))).lt; omega)
     have ne4_24 : ∀ k, ob sq4 k → k ≠ b24 := fun k hk => (AP4.blk k hk).elim (nl1_2_24 k) (fun h => by have := ((((((((B24.ext E1).ext E3).fr E4 (fun h => nb8 _ (.inr ⟨_, _, he, .inl h⟩) rfl)).ext E5).fr EL1 (fun h => h.elim (fun h => absurd h (by omega)) (fun h => (fun h => nb7 _ h rfl) h))).ext Eb25).ne Es2 (by omega))).lt; omega)
     have ne4_25 : ∀ k, ob sq4 k → k ≠ b25 := fun k hk => (AP4.blk k hk).elim (nb9 k) (fun h => by have := (Bs2).lt; omega)
     have sp4_3 : ∀ k, ob sq4 k → ob so1_3 k → False := fun k hk h2 => (AP4.blk k hk).elim (fun h => sp1L_2_3 k h h2) (fun h => by have := (((ow1L_3.ext Eb25).ne Es2 (fun h => nb10 _ h rfl))).lt h2; omega)
     have bk4_1 : ∀ k, ob sq4 k → (ob stM k ∨ w8.heap.size ≤ k) := fun k hk => (AP4.blk k hk).elim (bk1L_2 k) (fun h => .inr (by omega))
     have F16 := F13.new' EA4 ge1L_2
     have hzA4 := EA4.size
     have BA4_50 := ((BL1_50.ext Eb25).ne Es2 (by omega)).fr EA4 (fun h => nl1_2_50 _ h rfl)
     have BA4_21 := ((((((((((B21.ext Eb22).ext Eb23).ext Eb24).ext E1).ext E3).fr E4 (fun h => nb2 _ (.inr ⟨_, _, he, .inl h⟩) rfl)).ext E5).fr EL1 (fun h => h.elim (fun h => absurd h (by omega)) (fun h => (fun h => nb1 _ h rfl) h))).ext Eb25).ne Es2 (by omega)).fr EA4 (fun h => nl1_2_21 _ h rfl)
     have BA4_22 := (((((((((B22.ext Eb23).ext Eb24).ext E1).ext E3).fr E4 (fun h => nb4 _ (.inr ⟨_, _, he, .inl h⟩) rfl)).ext E5).fr EL1 (fun h => h.elim (fun h => absurd h (by omega)) (fun h => (fun h => nb3 _ h rfl) h))).ext Eb25).ne Es2 (by omega)).fr EA4 (fun h => nl1_2_22 _ h rfl)
     have BA4_23 := ((((((((B23.ext Eb24).ext E1).ext E3).fr E4 (fun h => nb6 _ (.inr ⟨_, _, he, .inl h⟩) rfl)).ext E5).fr EL1 (fun h => h.elim (fun h => absurd h (by omega)) (fun h => (fun h => nb5 _ h rfl) h))).ext Eb25).ne Es2 (by omega)).fr EA4 (fun h => nl1_2_23 _ h rfl)
     have BA4_24 := (((((((B24.ext E1).ext E3).fr E4 (fun h => nb8 _ (.inr ⟨_, _, he, .inl h⟩) rfl)).ext E5).fr EL1 (fun h => h.elim (fun h => absurd h (by omega)) (fun h => (fun h => nb7 _ h rfl) h))).ext Eb25).ne Es2 (by omega)).fr EA4 (fun h => nl1_2_24 _ h rfl)
     have BA4_25 := Bs2.fr EA4 (fun h => nb9 _ h rfl)
     have oA4_3 := ((ow1L_3.ext Eb25).ne Es2 (fun h => nb10 _ h rfl)).fr EA4 (fun k h1 h2 => sp1L_2_3 k h2 h1)
     have sr4_3 : ∀ k, ob so1_3 k → ob sq4 k → False := fun k h1 h2 => sp4_3 k h2 h1
     have sa4_1 : ∀ k, mtb (some (⟨bT, oT, none⟩ : Addr)) (TM.set (num s2) (((some (⟨bA, oA, none⟩ : Addr)), cA, x.1.set (num ix) y), (sB, cB, x.2))) k → ob sq4 k → False := fun k hk h2 => (AP4.blk k h2).elim (fun h => stl1_1_2 k hk h) (fun h => by have := (((((tw1.ext E5).fr EL1 (fun k h1 => (fun h => h.elim (fun h => tn1_50 _ h1 h) (fun h => (fun h => ts1_2 _ h1 h) h)))).ext Eb25).fr Es2 (fun k hk h => nb11 k hk h))).lt hk; omega)
     refine lx_value (want rfl) (rn_nilCheck rfl) ?_
     refine lx_value (want rfl) (rn_fieldAddr fa_113_2 rfl) ?_
     refine lx_set (want rfl) sz_31 rfl (t_slice rfl) rfl rfl rfl BA4_50 (Nat.le_of_ble_eq_true rfl) ?_
     intro w13 Es3 Bs3
     have F17 := F16.new' Es3 (fun k h => by have h : k = b := h; rw [h]; exact (.inl hZb50))
     have hzs3 := Es3.size
     refine lx_nil ?_
     refine wk_region ?_
     refine lx_value (want rfl) (mv_pointer (A1.at 0 rfl rfl)) ?_
     refine lx_value (want rfl) (rn_nilCheck rfl) ?_
     refine lx_value (want rfl) (rn_fieldAddr fa_113_1 rfl) ?_
     refine lx_value (want rfl) (rn_load1Blk ag_3 rfl Bs3 rfl) ?_
     refine lx_value (want rfl) (rn_sub rfl rfl (by omega)) ?_
     refine lx_value (want rfl) (rn_nilCheck rfl) ?_
     refine lx_value (want rfl) (rn_fieldAddr fa_113_1 rfl) ?_
     refine lx_set (want rfl) sz_3 rfl (t_int rfl) rfl rfl rfl Bs3 (Nat.le_of_ble_eq_true rfl) ?_
     intro w14 Es4 Bs4
     have F18 := F17.new' Es4 (fun k h => by have h : k = b := h; rw [h]; exact (.inl hZb50))
     have hzs4 := Es4.size
     refine lx_nil ?_
     refine wk_region ?_
     refine lx_value (want rfl) (rn_add hs1_45 rfl (by omega)) ?_
     refine lx_value (want rfl) (mv_int rfl) ?_
     refine lx_nil ?_
     exact ⟨rfl, ((((((((((((((((((((((((((((((((((A1.up rfl _).up rfl _).up rfl _).up rfl _).none _).up rfl _).up rfl _).up rfl _).up rfl _).up rfl _).up rfl _).up rfl _).up rfl _).up rfl _).up rfl _).up rfl _).up rfl _).up rfl _).up rfl _).up rfl _).up rfl _).up rfl _).up rfl _).none _).up rfl _).up rfl _).up rfl _).up rfl _).up rfl _).up rfl _).up rfl _).none _).up rfl _).up rfl _), (Fr.trans (Fr.trans (Fr.trans (Fr.trans (Fr.ext EL1 Eb25) Es2 (fun i hi1 h => (absurd hi1 (by omega)))) EA4 (fun i hi1 h => ((bk1L_2 _ h).elim (fun h => (.inr h)) (fun h => absurd hi1 (by omega))))) Es3 (fun i hi1 h => (.inl h))) Es4 (fun i hi1 h => (.inl h))), _, (by omega), i + 1, sq4, cq4, so1_3, co1_3, rfl, rfl, (by rw [hq1]; first | exact told_box Bs4 | exact Bs4), (by rw [hq1]; first | exact told_own ((ow4.ne Es3 (fun h => ne4_50 _ h rfl)).ne Es4 (fun h => ne4_50 _ h rfl)) rfl | exact ((ow4.ne Es3 (fun h => ne4_50 _ h rfl)).ne Es4 (fun h => ne4_50 _ h rfl))), ge4, bk4_1, (by rw [hq2]; first | exact ho1_3 | (rw [List.length_append]; exact ho1_3)), (by rw [hq2]; first | exact ((oA4_3.ne Es3 (fun h => nl1_3_50 _ h rfl)).ne Es4 (fun h => nl1_3_50 _ h rfl)) | exact own_more ((oA4_3.ne Es3 (fun h => nl1_3_50 _ h rfl)).ne Es4 (fun h => nl1_3_50 _ h rfl)) rfl), ge1L_3, bk1L_3, sp4_3, by have := (List.getElem?_eq_some_iff.1 hr).1; omega⟩
   ·
    refine lx_nil ?_
    refine wk_seq ?_
    refine wk_cond_f rfl ?_
    refine wk_exit ?_
    refine wk_seq ?_
    refine wk_region ?_
    refine lx_value (want rfl) (mv_pointer (A1.at 11 rfl rfl)) ?_
    refine lx_value (want rfl) (mv_slice ho1_3) ?_
    refine lx_value (want rfl) (rn_nilCheck rfl) ?_
    refine lx_value (want rfl) (rn_fieldAddr fa_65_1 rfl) ?_
    have hM5 := ((tw1.ext E5).fr EL1 (fun k h1 => (fun h => h.elim (fun h => tn1_50 _ h1 h) (fun h => (fun h => ts1_2 _ h1 h) h))))
    have hW5 := ow1L_3
    refine lx_owncell (j := (num s2) * 2 + 1) (want rfl) sz_63 rfl (t_slice rfl) rfl rfl rfl hM5.out (by have := (List.getElem?_eq_some_iff.1 he2).1; omega) ?_
    intro w10 E7' HO5
    have E7 : Fr (ob (some (⟨bT, oT, none⟩ : Addr))) _ _ := E7'.mono (fun i _ hi => ⟨_, _, by subst hi; rfl⟩)
    have F19 := F11.new' E7 (fun k h => tg1 k (.inl h))
    have hz7 := E7.size
    obtain ⟨tw5, ti5⟩ := MTab.set (e' := (((some (⟨bA, oA, none⟩ : Addr)), cA, x.1.set (num ix) y), (so1_3, co1_3, restW x.2 ix.2 i))) hM5 he2 (Fr.refl _ _) (by have h := hM5.ownA _ _ he2; exact h) (by skip; exact hW5) (fun k h1 h2 => stl1_1_3 k (.inr ⟨_, _, he2, .inl h1⟩) h2) (fun k h => h.elim (fun h => .inl (.inl h)) (fun h => .inr (fun hm => stl1_1_3 k hm h))) E7 (by rw [← flat_setB he2]; skip; exact HO5)
    have tg2 : ∀ k, mtb (some (⟨bT, oT, none⟩ : Addr)) ((TM.set (num s2) (((some (⟨bA, oA, none⟩ : Addr)), cA, x.1.set (num ix) y), (sB, cB, x.2))).set (num s2) (((some (⟨bA, oA, none⟩ : Addr)), cA, x.1.set (num ix) y), (so1_3, co1_3, restW x.2 ix.2 i))) k → Z k ∨ w0.heap.size ≤ k := fun k hk => (ti5 k hk).elim (fun h => tg1 k h) (fun h => h.elim (fun h => tg1 k (.inr ⟨_, _, he2, .inl h⟩)) (fun h => ge1L_3 k h))
    have tn2_50 : ∀ k, mtb (some (⟨bT, oT, none⟩ : Addr)) ((TM.set (num s2) (((some (⟨bA, oA, none⟩ : Addr)), cA, x.1.set (num ix) y), (sB, cB, x.2))).set (num s2) (((some (⟨bA, oA, none⟩ : Addr)), cA, x.1.set (num ix) y), (so1_3, co1_3, restW x.2 ix.2 i))) k → k ≠ b := fun k hk => (ti5 k hk).elim (fun h => tn1_50 k h) (fun h => h.elim (fun h => tn1_50 k (.inr ⟨_, _, he2, .inl h⟩)) (fun h => nl1_3_50 k h))
    have tn2_21 : ∀ k, mtb (some (⟨bT, oT, none⟩ : Addr)) ((TM.set (num s2) (((some (⟨bA, oA, none⟩ : Addr)), cA, x.1.set (num ix) y), (sB, cB, x.2))).set (num s2) (((some (⟨bA, oA, none⟩ : Addr)), cA, x.1.set (num ix) y), (so1_3, co1_3, restW x.2 ix.2 i))) k → k ≠ b21 := fun k hk => (ti5 k hk).elim (fun h => tn1_21 k h) (fun h => h.elim (fun h => tn1_21 k (.inr ⟨_, _, he2, .inl h⟩)) (fun h => nl1_3_21 k h))
    have tn2_22 : ∀ k, mtb (some (⟨bT, oT, none⟩ : Addr)) ((TM.set (num s2) (((some (⟨bA, oA, none⟩ : Addr)), cA, x.1.set (num ix) y), (sB, cB, x.2))).set (num s2) (((some (⟨bA, oA, none⟩ : Addr)), cA, x.1.set (num ix) y), (so1_3, co1_3, restW x.2 ix.2 i))) k → k ≠ b22 := fun k hk => (ti5 k hk).elim (fun h => tn1_22 k h) (fun h => h.elim (fun h => tn1_22 k (.inr ⟨_, _, he2, .inl h⟩)) (fun h => nl1_3_22 k h))
    have tn2_23 : ∀ k, mtb (some (⟨bT, oT, none⟩ : Addr)) ((TM.set (num s2) (((some (⟨bA, oA, none⟩ : Addr)), cA, x.1.set (num ix) y), (sB, cB, x.2))).set (num s2) (((some (⟨bA, oA, none⟩ : Addr)), cA, x.1.set (num ix) y), (so1_3, co1_3, restW x.2 ix.2 i))) k → k ≠ b23 := fun k hk => (ti5 k hk).elim (fun h => tn1_23 k h) (fun h => h.elim (fun h => tn1_23 k (.inr ⟨_, _, he2, .inl h⟩)) (fun h => nl1_3_23 k h))
    have tn2_24 : ∀ k, mtb (some (⟨bT, oT, none⟩ : Addr)) ((TM.set (num s2) (((some (⟨bA, oA, none⟩ : Addr)), cA, x.1.set (num ix) y), (sB, cB, x.2))).set (num s2) (((some (⟨bA, oA, none⟩ : Addr)), cA, x.1.set (num ix) y), (so1_3, co1_3, restW x.2 ix.2 i))) k → k ≠ b24 := fun k hk => (ti5 k hk).elim (fun h => tn1_24 k h) (fun h => h.elim (fun h => tn1_24 k (.inr ⟨_, _, he2, .inl h⟩)) (fun h => nl1_3_24 k h))
    have ts2_2 : ∀ k, mtb (some (⟨bT, oT, none⟩ : Addr)) ((TM.set (num s2) (((some (⟨bA, oA, none⟩ : Addr)), cA, x.1.set (num ix) y), (sB, cB, x.2))).set (num s2) (((some (⟨bA, oA, none⟩ : Addr)), cA, x.1.set (num ix) y), (so1_3, co1_3, restW x.2 ix.2 i))) k → ob so1_2 k → False := fun k hk h2 => (ti5 k hk).elim (fun h => stl1_1_2 k h h2) (fun h => h.elim (fun h => stl1_1_2 k (.inr ⟨_, _, he2, .inl h⟩) h2) (fun h => (fun k h1 h2 => sp1L_2_3 k h2 h1) k h h2))
    refine lx_nil ?_
    refine wk_seq ?_
    refine wk_region ?_
    refine lx_call (want rfl) (ent_func cf_106 args0) (none_ct w10) ?_
    rintro _ w11 E8 rfl
    have F20 := F19.ext E8
    have hz8 := E8.size
    refine lx_set (want rfl) sz_36 (A1.at 8 rfl rfl) (t_agg rfl) rfl rfl rfl (((((((B24.ext E1).ext E3).fr E4 (fun h => nb8 _ (.inr ⟨_, _, he, .inl h⟩) rfl)).ext E5).fr EL1 (fun h => h.elim (fun h => absurd h (by omega)) (fun h => (fun h => nb7 _ h rfl) h))).fr E7 (fun h => tn1_24 _ (.inl h) rfl)).ext E8) (Nat.le_of_ble_eq_true rfl) ?_
    intro w12 Es5 Bs5
    have F21 := F20.set Es5 (by omega)
    have hzs5 := Es5.size
    refine lx_value (want rfl) (as_int rfl) ?_
    refine lx_nil ?_
    refine wk_ret ?_
    refine retR2 Tryz.results116 (.cell (A1.at 8 rfl rfl) (run_loadVar_blk ag_36 sz_36 Bs5 rfl rfl)) (.tmp (t_int rfl)) F21 ?_
    exact outx_mk (wrX_new hf hsx hu (fun g => g h0d) hlt2) rfl (aft_0 rfl) (mo_mk (mtab_set2 hT rfl) (((BL1_50.fr E7 (fun h => tn1_50 _ (.inl h) rfl)).ext E8).ne Es5 (by omega)) (by rw [List.length_set, List.length_set]) (by show _ = ((waits (m.set (num s2) (x.1.set (num ix) y, restW x.2 ix.2 i)) : Nat) : Int); have := write_waits (s := s2) (ix := ix) (y := y) hx hlt2; omega) rfl ((tw5.ext E8).fr Es5 (fun k hk h => tn2_24 k hk h)) (((ow1L_2.fr E7 (fun k h1 h => stl1_1_2 k (.inl h) h1)).ext E8).ne Es5 (fun h => nl1_2_24 _ h rfl)) tn2_50 nl1_2_50 ts2_2 (.inl hZb50) tg2 ge1L_2)
  ·
   have h0d := of_decide_eq_false h0d
   refine lx_value (want rfl) (rn_not rfl) ?_
   refine lx_value (want rfl) (as_bool rfl) ?_
   refine lx_nil ?_
   refine wk_cond_t rfl ?_
   refine wk_seq ?_
   refine wk_region ?_
   refine lx_value (want rfl) (rn_build0  (fun w => bd_36  w)) ?_
   refine lx_set (want rfl) sz_36 rfl (t_agg rfl) rfl rfl rfl ((B24.ext E1).ext E3) (Nat.le_of_ble_eq_true rfl) ?_
   intro w7 Es6 Bs6
   have F22 := F8.set Es6 (by omega)
   have hzs6 := Es6.size
   refine lx_value (want rfl) (as_int rfl) ?_
   refine lx_nil ?_
   refine wk_ret ?_
   refine retR2 Tryz.results116 (.cell rfl (run_loadVar_blk ag_36 sz_36 Bs6 rfl rfl)) (.tmp (t_int rfl)) F22 ?_
   exact outx_err (wrX_full hf hsx hu h0d) (by decide) rfl (mo_mk hT (((((((hBm.ext Eb21).ext Eb22).ext Eb23).ext Eb24).ext E1).ext E3).ne Es6 (by omega)) rfl rfl rfl (((((((hTm.ext Eb21).ext Eb22).ext Eb23).ext Eb24).ext E1).ext E3).fr Es6 (fun k hk h => nb8 k hk h)) (((((((hOm.ext Eb21).ext Eb22).ext Eb23).ext Eb24).ext E1).ext E3).ne Es6 (fun h => nb7 _ h rfl)) hnb hnt hsep (.inl hZb50) zt1 zo2)

end Go.Proofs.YtnhgfmbmfjmonaaGreatDoor

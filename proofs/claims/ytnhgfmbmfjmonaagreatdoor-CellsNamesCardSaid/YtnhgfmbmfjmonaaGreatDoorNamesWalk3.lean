/- What functions compute: pdraw, samemem, copy. -/
import Derived.Test.YtnhgfmbmfjmonaaGreatDoorNamesFacts
import Derived.Test.YtnhgfmbmfjmonaaGreatDoorNamesPre
import Derived.Test.YtnhgfmbmfjmonaaGreatDoorNamesWalk1
import Derived.Test.YtnhgfmbmfjmonaaGreatDoorNamesWalk2
set_option maxRecDepth 100000
set_option linter.unusedVariables false
set_option linter.unusedSimpArgs false
namespace Go.Proofs.YtnhgfmbmfjmonaaGreatDoor
open Go Go.RowKit Go.Mix Go.Eng
set_option maxHeartbeats 2000000 in
theorem pdraw_ct (m : Mem) (hok : okM m = true) (b : Nat) (sM : Option Addr) (cM : Nat) (TM : List (SE Vl Rd)) (wt : Int) (stM : Option Addr) (nt ctM : Nat) (l : List Vl) (s : Option Addr) (c : Nat) (G : Nat → Prop) (hll : l.length ≤ 1048576) (hlv : (l.all fun v => isVal v m.length) = true) (w0 : World) (hBm : Blk w0 b [.slice sM TM.length cM, .int .i64 wt, .slice stM nt ctM] 113) (hT : TM.map SE.abs = m) (hTm : MTab w0 65 36 2 vlC 115 2 rdC sM cM TM) (hl : VlS G w0 s l) :
  CT Tryz.prog 76 [.pointer (some ⟨b, 0, none⟩), .slice s l.length c] w0 no (fun v w => PicR w0.heap.size w v (drawP (cellsOfM m) l)) := by
 have hlb := hBm.lt
 have hl2 := vl_lt hl
 have h400 := (okM_iff.1 hok).1
 have hTl : TM.length = m.length := by have := congrArg List.length hT; simpa using this
 have F0 := Fr.refl no w0
 refine ct_body Tryz.func76 rfl Tryz.ntmps76 (Nat.le_of_ble_eq_true rfl) ?_
 refine wk_seq ?_
 refine wk_region ?_
 refine lx_new (want rfl) (rn_alloc ze_45) ?_
 intro b21 w1 hb21 Eb21 B21 hlb21
 have F1 := F0.ext Eb21
 have hzb21 := Eb21.size
 refine lx_nil ?_
 refine wk_seq ?_
 refine wk_region ?_
 refine lx_makeMapB kI (want rfl) run_makeMap0 ?_
 intro b22 w2 hb22 Eb22 B22
 have F2 := F1.ext Eb22
 have hzb22 := Eb22.size
 have hlb22 := B22.lt
 refine lx_value (want rfl) (rn_build1 (t_map rfl) (fun w => bd_172_0 _ w)) ?_
 refine lx_new (want rfl) (rn_box (t_agg rfl)) ?_
 intro b23 w3 hb23 Eb23 B23 hlb23
 have F3 := F2.ext Eb23
 have hzb23 := Eb23.size
 obtain ⟨Z5, hMt, hMti⟩ := mt_new (lo := w1.heap.size) B23 (B22.ext Eb23) (by omega) (by omega) (by omega)
 have hinc := fun (k : Nat) (hk : zz zn Z5 k) => (Or.inr (hMti k hk) : zz none (fun _ => False) k ∨ w1.heap.size ≤ k)
 have tg2 : ∀ k, zz zn Z5 k → w0.heap.size ≤ k := fun k hk => (hinc k hk).elim ((fun _ h => zz_nil h) k) (fun h => by omega)
 have tn2_50 : ∀ k, zz zn Z5 k → k ≠ b := fun k hk => (hinc k hk).elim ((fun _ h => zz_nil h) k) (fun h => by have := (hBm).lt; omega)
 have tn2_21 : ∀ k, zz zn Z5 k → k ≠ b21 := fun k hk => (hinc k hk).elim ((fun _ h => zz_nil h) k) (fun h => by have := (B21).lt; omega)
 refine lx_value (want rfl) (as_pointer rfl) ?_
 refine lx_nil ?_
 refine wk_seq ?_
 refine wk_region ?_
 refine lx_value (want rfl) (mv_pointer rfl) ?_
 refine lx_value (want rfl) (mv_slice rfl) ?_
 refine lx_call (want rfl) (ent_func cf_120 (argsC (t_pointer rfl) (argsC (t_slice rfl) args0))) (meet_ct Z5 b23 [] (Nat.zero_le _) l s c (fun k => G k ∧ k < w0.heap.size) (fun k hk h => by have := tg2 k h; have := hk.2; omega) hll (vals_nn hlv) w3 hMt (hl2.fr (vl_stab _) F3 (fun _ _ h => h))) ?_
 rintro _ w4 E1 ⟨sV, cV, Z6, rfl, hOV, hgV, hMV, hiV, hdV⟩
 have F4 := F3.new E1 (fun k h => tg2 k h)
 have hz1 := E1.size
 have tg4 : ∀ k, zz zn Z6 k → w0.heap.size ≤ k := fun k hk => (hiV k hk).elim (tg2 k) (fun h => by omega)
 have tn4_50 : ∀ k, zz zn Z6 k → k ≠ b := fun k hk => (hiV k hk).elim (tn2_50 k) (fun h => by have := (hBm).lt; omega)
 have tn4_21 : ∀ k, zz zn Z6 k → k ≠ b21 := fun k hk => (hiV k hk).elim (tn2_21 k) (fun h => by have := (B21).lt; omega)
 have tt4_1 : ∀ k, zz zn Z6 k → tb none ([] : List (TE Vl)) k → False := fun k hk h2 => (hiV k hk).elim (fun h => (fun _ _ h => tb_nil h) k h h2) (fun h => by have := ((Tab.nil w3 30 36 2 vlC)).lt h2; omega)
 have ge1 : ∀ k, ob sV k → w0.heap.size ≤ k := fun k hk => (by have := hgV k hk; omega)
 have ne1_50 : ∀ k, ob sV k → k ≠ b := fun k hk => by have := hgV k hk; have := (hBm).lt; omega
 have ne1_21 : ∀ k, ob sV k → k ≠ b21 := fun k hk => by have := hgV k hk; have := (B21).lt; omega
 refine lx_value (want rfl) (rn_build1 (t_slice rfl) (fun w => bd_45_0 _ _ _ w)) ?_
 refine lx_new (want rfl) (rn_alloc ze_45) ?_
 intro b24 w5 hb24 Eb24 B24 hlb24
 have F5 := F4.ext Eb24
 have hzb24 := Eb24.size
 have nb1 : ∀ k, ob sV k → k ≠ b24 := fun k hk => by have := (hOV).lt hk; omega
 have nb2 : ∀ k, zz zn Z6 k → k ≠ b24 := fun k hk => by have := (hMV).lt hk; omega
 refine lx_set (want rfl) sz_45 rfl (t_agg rfl) rfl rfl rfl B24 (Nat.le_of_ble_eq_true rfl) ?_
 intro w6 Es1 Bs1
 have F6 := F5.set Es1 (by omega)
 have hzs1 := Es1.size
 refine lx_nil ?_
 refine wk_seq ?_
 refine wk_seq ?_
 refine wk_region ?_
 refine lx_value (want rfl) (as_int rfl) ?_
 refine lx_nil ?_
 refine wk_block ?_
 refine wk_loopA [7, 8, 16, 17, 18, 19, 20, 21, 22, 23, 24, 25, 26, 27, 28, 29, 30, 31, 32, 33, 34, 35, 36, 37, 38, 39, 40, 41, 42, 43, 44, 45, 46] (fun j => no j ∨ w0.heap.size ≤ j) (fun nM ρ w => ∃ (i : Nat) (O : List Nat) (C : List (List Vl)) (so1_2 : Option Addr) (co1_2 : Nat) (st1_1 : Option Addr) (ct1_1 : Nat) (TT1_1 : List (TE Vl)) (TT1_5 : Nat → Prop), nM = m.length - i ∧ ρ 7 = .int .i64 i ∧ Blk w b (cellsOf hBm) 113 ∧ Blk w b21 (cellsOf B21) 45 ∧ Blk w b24 [.slice so1_2 (renL [] l).length co1_2, .slice st1_1 TT1_1.length ct1_1] 45 ∧ OwnS w 36 2 so1_2 ((renL [] l).length) co1_2 ((renL [] l).flatMap vlC) ∧ (∀ k, ob so1_2 k → w0.heap.size ≤ k) ∧ (∀ k, ob so1_2 k → k ≠ b) ∧ (∀ k, ob so1_2 k → k ≠ b21) ∧ (∀ k, ob so1_2 k → k ≠ b24) ∧ Tab w 30 36 2 vlC st1_1 ct1_1 TT1_1 ∧ (∀ k, tb st1_1 TT1_1 k → w0.heap.size ≤ k) ∧ (∀ k, tb st1_1 TT1_1 k → k ≠ b) ∧ (∀ k, tb st1_1 TT1_1 k → k ≠ b21) ∧ (∀ k, tb st1_1 TT1_1 k → k ≠ b24) ∧ (∀ k, tb st1_1 TT1_1 k → ob so1_2 k → False) ∧ MtO TT1_5 w b23 O ∧ (∀ k, zz zn TT1_5 k → w0.heap.size ≤ k) ∧ (∀ k, zz zn TT1_5 k → k ≠ b) ∧ (∀ k, zz zn TT1_5 k → k ≠ b21) ∧ (∀ k, zz zn TT1_5 k → k ≠ b24) ∧ (∀ k, zz zn TT1_5 k → ob so1_2 k → False) ∧ (∀ k, tb st1_1 TT1_1 k → zz zn TT1_5 k → False) ∧ (i ≤ O.length) ∧ (MetOk m.length O) ∧ (TT1_1.map (·.2.2) = C) ∧ (C.length = i) ∧ (C ++ drawC (cellsOfM m) (m.length + 1 - i) i O = drawC (cellsOfM m) (m.length + 1) 0 (metL [] l))) _ ⟨0, (metL [] l), [], sV, cV, none, 0, ([] : List (TE Vl)), Z6, rfl, rfl, ((((((hBm.ext Eb21).ext Eb22).ext Eb23).fr E1 (fun h => tn2_50 _ h rfl)).ext Eb24).ne Es1 (by omega)), (((((B21.ext Eb22).ext Eb23).fr E1 (fun h => tn2_21 _ h rfl)).ext Eb24).ne Es1 (by omega)), (by first | exact Bs1 | (rw [List.length_append]; exact Bs1)), ((hOV.ext Eb24).ne Es1 (fun h => nb1 _ h rfl)), ge1, ne1_50, ne1_21, nb1, (Tab.nil w6 30 36 2 vlC), (fun _ h => tb_nil h), (fun _ h => tb_nil h), (fun _ h => tb_nil h), (fun _ h => tb_nil h), (fun _ h _ => tb_nil h), ((hMV.ext Eb24).fr Es1 (fun k hk h => nb2 k hk h)), tg4, tn4_50, tn4_21, nb2, (fun k h1 h2 => hdV k h2 h1), (fun k h1 h2 => tt4_1 k h2 h1), Nat.zero_le _, ((metOk_nil _).on (vals_refs hlv)), rfl, rfl, rfl⟩ ?_
 rintro n1 ρ1 w7 A1 EL1 ⟨i, O, C, so1_2, co1_2, st1_1, ct1_1, TT1_1, TT1_5, rfl, hs1_7, BL1_50, BL1_21, BL1_24, ow1L_2, ge1L_2, ne1L_2_50, ne1L_2_21, ne1L_2_24, tw1L_1, tg1L_1, tn1L_1_50, tn1L_1_21, tn1L_1_24, ts1L_1_2, tw1L_5, tg1L_5, tn1L_5_50, tn1L_5_21, tn1L_5_24, ts1L_5_2, tt1L_1_5, hi, hO, hT1, hCi, hdr⟩
 have F7 := F6.wide EL1
 have hzL1 := EL1.size
 refine wk_seq ?_
 refine wk_seq ?_
 refine wk_region ?_
 refine lx_value (want rfl) (mv_int hs1_7) ?_
 refine lx_value (want rfl) (mv_pointer (A1.at 5 rfl rfl)) ?_
 refine lx_value (want rfl) (rn_nilCheck rfl) ?_
 refine lx_value (want rfl) (rn_fieldAddr fa_172_1 rfl) ?_
 obtain ⟨bmR, sR, cR, hBR, hOR⟩ := MtO.parts tw1L_5
 refine lx_value (want rfl) (rn_load1 ag_77 rfl (hBR.cell 1 rfl)) ?_
 refine lx_value (want rfl) (rn_len Tryz.underlying77 rfl) ?_
 refine lx_value (want rfl) (rn_lss rfl rfl) ?_
 refine lx_dec (fun hlt => ?_) (fun hlt => ?_)
 ·
  obtain ⟨x, hx⟩ := getx hlt
  have hxl := hO.lt x (List.mem_of_getElem? hx)
  obtain ⟨y, hy⟩ : ∃ y, m[x]? = some y := ⟨_, List.getElem?_eq_getElem hxl⟩
  have hyv := okM_vals hok hy
  have hy100 := ((okM_Bm hok).get hy).1
  obtain ⟨sA, cA, sB, cB, he⟩ := mtab_at hT hy
  obtain ⟨bT, oT, hsT, hcA, hcB⟩ := hTm.get he
  have hltT := (List.getElem?_eq_some_iff.1 he).1
  obtain ⟨bR, oR, hsR⟩ := own_some hOR (show 0 < O.length by omega)
  subst hsR
  have hOl := hO.len
  have hTTl := congrArg List.length hT1
  rw [List.length_map] at hTTl
  refine lx_nil ?_
  refine wk_cond_t rfl ?_
  refine wk_skip ?_
  refine wk_seq ?_
  refine wk_block ?_
  refine wk_seq ?_
  refine wk_mix 15 (fun _ => .none) (by kernel_rfl) (by kernel_rfl) (fun kS G hk => by cases hk) (fun kS s y G hk => by cases hk) ?_
  simp only [List.take_succ_cons, List.take_zero, List.take_nil, List.drop_succ_cons, List.drop_zero, List.drop_nil]
  refine mx_calm rfl (want rfl) (fun u1 eu1 fu1 => mv_pointer (A1.at 5 rfl rfl)) ?_
  refine mx_calm rfl (want rfl) (fun u2 eu2 fu2 => mv_pointer (A1.at 0 rfl rfl)) ?_
  refine mx_calm rfl (want rfl) (fun u3 eu3 fu3 => rn_nilCheck rfl) ?_
  refine mx_calm rfl (want rfl) (fun u4 eu4 fu4 => rn_fieldAddr fa_113_0 rfl) ?_
  refine mx_calm rfl (want rfl) (fun u5 eu5 fu5 => rn_load1Blk ag_22 rfl (BL1_50.ext ((ext_drawn _).trans' eu5)) rfl) ?_
  refine mx_calm rfl (want rfl) (fun u6 eu6 fu6 => mv_pointer (A1.at 5 rfl rfl)) ?_
  refine mx_calm rfl (want rfl) (fun u7 eu7 fu7 => rn_nilCheck rfl) ?_
  refine mx_calm rfl (want rfl) (fun u8 eu8 fu8 => rn_fieldAddr fa_172_1 rfl) ?_
  refine mx_calm rfl (want rfl) (fun u9 eu9 fu9 => rn_load1 ag_77 rfl (((ext_drawn _).trans' eu9).cell (fun h => h) (hBR.cell 1 rfl))) ?_
  refine mx_calm rfl (want rfl) (fun u10 eu10 fu10 => mv_int hs1_7) ?_
  refine mx_calm rfl (want rfl) (fun u11 eu11 fu11 => rn_index i Tryz.underlying77 sz_3 rfl rfl rfl (by omega)) ?_
  refine mx_calm rfl (want rfl) (fun u12 eu12 fu12 => rn_load1 ag_3 rfl (((ext_drawn _).trans' eu12).cell (fun h => h) (nat_cell hOR hx))) ?_
  refine mx_calm rfl (want rfl) (fun u13 eu13 fu13 => rn_index x Tryz.underlying22 sz_65 ((rfl).trans (congrArg (fun q => Value.slice q TM.length cM) hsT)) rfl rfl hltT) ?_
  refine mx_calm rfl (want rfl) (fun u14 eu14 fu14 => rn_fieldAddr fa_65_0 rfl) ?_
  refine mx_calm rfl (want rfl) (fun u15 eu15 fu15 => rn_load1 ag_30 rfl ((F7.ext ((ext_drawn _).trans' eu15)).cell (fun h => h) (show _ = some (Value.slice sA y.1.length cA) from hcA))) ?_
  refine mx_nil (fun w8 E2' H1 HS => ?_)
  have E2 := (ext_drawn _).trans' E2'
  have F8 := F7.ext E2
  have hz2 := E2.size
  refine lx_call (want rfl) (ent_func cf_120 (argsC (t_pointer rfl) (argsC (t_slice rfl) args0))) (meet_ct TT1_5 b23 O (by omega) y.1 sA cA (fun k => k < w0.heap.size) (fun k hk h => by have := tg1L_5 k h; omega) hy100 (vals_nn hyv) w8 (tw1L_5.ext E2) (OwnS.sl (F := fun k => k < w0.heap.size) ((hTm.ownA _ _ he).fr F8 (fun _ _ h => h)) (by decide) rfl (fun _ _ => rfl) (fun k hk => hTm.lt (.inr ⟨_, _, he, .inl hk⟩)))) ?_
  rintro _ w9 E3 ⟨sN, cN, Z7, rfl, hON, hgN, hMN, hiN, hdN⟩
  have F9 := F8.new E3 (fun k h => tg1L_5 k h)
  have hz3 := E3.size
  have tg5 : ∀ k, zz zn Z7 k → w0.heap.size ≤ k := fun k hk => (hiN k hk).elim (tg1L_5 k) (fun h => by omega)
  have tn5_50 : ∀ k, zz zn Z7 k → k ≠ b := fun k hk => (hiN k hk).elim (tn1L_5_50 k) (fun h => by have := (BL1_50).lt; omega)
  have tn5_21 : ∀ k, zz zn Z7 k → k ≠ b21 := fun k hk => (hiN k hk).elim (tn1L_5_21 k) (fun h => by have := (BL1_21).lt; omega)
  have tn5_24 : ∀ k, zz zn Z7 k → k ≠ b24 := fun k hk => (hiN k hk).elim (tn1L_5_24 k) (fun h => by have := (BL1_24).lt; omega)
  have ts5_2 : ∀ k, zz zn Z7 k → ob so1_2 k → False := fun k hk h2 => (hiN k hk).elim (fun h => ts1L_5_2 k h h2) (fun h => by have := (ow1L_2).lt h2; omega)
  have tt5_1 : ∀ k, zz zn Z7 k → tb st1_1 TT1_1 k → False := fun k hk h2 => (hiN k hk).elim (fun h => (fun k h1 h2 => tt1L_1_5 k h2 h1) k h h2) (fun h => by have := (tw1L_1).lt h2; omega)
  have ge2 : ∀ k, ob sN k → w0.heap.size ≤ k := fun k hk => (by have := hgN k hk; omega)
  have ne2_50 : ∀ k, ob sN k → k ≠ b := fun k hk => by have := hgN k hk; have := (BL1_50).lt; omega
  have ne2_21 : ∀ k, ob sN k → k ≠ b21 := fun k hk => by have := hgN k hk; have := (BL1_21).lt; omega
  have ne2_24 : ∀ k, ob sN k → k ≠ b24 := fun k hk => by have := hgN k hk; have := (BL1_24).lt; omega
  have sp2_2 : ∀ k, ob sN k → ob so1_2 k → False := fun k hk h2 => by have := hgN k hk; have := (ow1L_2).lt h2; omega
  have st2_1 : ∀ k, tb st1_1 TT1_1 k → ob sN k → False := fun k hk h2 => by have := (tw1L_1).lt hk; have := hgN k h2; omega
  refine lx_value (want rfl) (as_slice rfl) ?_
  refine lx_nil ?_
  refine wk_region ?_
  refine lx_value (want rfl) (rn_fieldAddr fa_45_1 (A1.at 6 rfl rfl)) ?_
  refine lx_value (want rfl) (rn_load1Blk ag_43 rfl ((BL1_24.ext E2).fr E3 (fun h => tn1L_5_24 _ h rfl)) rfl) ?_
  refine lx_value (want rfl) (mv_slice rfl) ?_
  refine lx_newS (want rfl) (rn_bslice (xs := [.tmp 43]) Tryz.underlying43 sz_30 ze_30 rfl (argsC (t_slice rfl) args0) (CL.cons rfl rfl CL.nil) rfl (Nat.le_of_ble_eq_true rfl)) ?_
  intro b25 w10 hb25 Eb25 B25 hlb25
  have F10 := F9.ext Eb25
  have hzb25 := Eb25.size
  have nb3 : ∀ k, ob so1_2 k → k ≠ b25 := fun k hk => by have := (ow1L_2).lt hk; omega
  have nb4 : ∀ k, ob sN k → k ≠ b25 := fun k hk => by have := (hON).lt hk; omega
  have nb5 : ∀ k, tb st1_1 TT1_1 k → k ≠ b25 := fun k hk => by have := (tw1L_1).lt hk; omega
  have nb6 : ∀ k, zz zn Z7 k → k ≠ b25 := fun k hk => by have := (hMN).lt hk; omega
  have hTo3 := (((tw1L_1.ext E2).fr E3 (fun k h1 h => (fun k h1 h2 => tt1L_1_5 k h2 h1) k h h1)).ext Eb25)
  have hOo3 := (hON.ext Eb25)
  refine lx_append 24 (want rfl) Tryz.underlying43 ti_30 (by decide) rfl (by decide) rfl rfl hTo3.out ((Src.blk B25 rfl rfl)) (by omega) ?_
  intro sq3 cq3 w11 AP3
  have EA3 := AP3.fr
  have F11 := F10.new EA3 (fun k h => tg1L_1 k (.inl h))
  have hzA3 := EA3.size
  obtain ⟨tw3, ti3⟩ := Tab.snoc (e := (sN, cN, (renL O y.1))) hTo3 hOo3 (fun k hk h => st2_1 k h hk) AP3
  have tg3 : ∀ k, tb sq3 (TT1_1 ++ [(sN, cN, (renL O y.1))]) k → w0.heap.size ≤ k := fun k hk => (ti3 k hk).elim (fun h => tg1L_1 k h) (fun h => h.elim (fun h => ge2 k h) (fun h => (by omega)))
  have tn3_50 : ∀ k, tb sq3 (TT1_1 ++ [(sN, cN, (renL O y.1))]) k → k ≠ b := fun k hk => (ti3 k hk).elim (fun h => tn1L_1_50 k h) (fun h => h.elim (fun h => ne2_50 k h) (fun h => by have := ((((BL1_50.ext E2).fr E3 (fun h => tn1L_5_50 _ h rfl)).ext Eb25)).lt; omega))
  have tn3_21 : ∀ k, tb sq3 (TT1_1 ++ [(sN, cN, (renL O y.1))]) k → k ≠ b21 := fun k hk => (ti3 k hk).elim (fun h => tn1L_1_21 k h) (fun h => h.elim (fun h => ne2_21 k h) (fun h => by have := ((((BL1_21.ext E2).fr E3 (fun h => tn1L_5_21 _ h rfl)).ext Eb25)).lt; omega))
  have tn3_24 : ∀ k, tb sq3 (TT1_1 ++ [(sN, cN, (renL O y.1))]) k → k ≠ b24 := fun k hk => (ti3 k hk).elim (fun h => tn1L_1_24 k h) (fun h => h.elim (fun h => ne2_24 k h) (fun h => by have := ((((BL1_24.ext E2).fr E3 (fun h => tn1L_5_24 _ h rfl)).ext Eb25)).lt; omega))
  have tn3_25 : ∀ k, tb sq3 (TT1_1 ++ [(sN, cN, (renL O y.1))]) k → k ≠ b25 := fun k hk => (ti3 k hk).elim (fun h => nb5 k h) (fun h => h.elim (fun h => nb4 k h) (fun h => by have := (B25).lt; omega))
  have ts3_2 : ∀ k, tb sq3 (TT1_1 ++ [(sN, cN, (renL O y.1))]) k → ob so1_2 k → False := fun k hk h2 => (ti3 k hk).elim (fun h => ts1L_1_2 k h h2) (fun h => h.elim (fun h => sp2_2 k h h2) (fun h => by have := ((((ow1L_2.ext E2).fr E3 (fun k h1 h => ts1L_5_2 k h h1)).ext Eb25)).lt h2; omega))
  have tt3_5 : ∀ k, tb sq3 (TT1_1 ++ [(sN, cN, (renL O y.1))]) k → zz zn Z7 k → False := fun k hk h2 => (ti3 k hk).elim (fun h => (fun k h1 h2 => tt5_1 k h2 h1) k h h2) (fun h => h.elim (fun h => (fun k h1 h2 => hdN k h2 h1) k h2 h) (fun h => by have := ((hMN.ext Eb25)).lt h2; omega))
  refine lx_value (want rfl) (rn_fieldAddr fa_45_1 (A1.at 6 rfl rfl)) ?_
  refine lx_set (want rfl) sz_43 rfl (t_slice rfl) rfl rfl rfl ((((BL1_24.ext E2).fr E3 (fun h => tn1L_5_24 _ h rfl)).ext Eb25).fr EA3 (fun h => tn1L_1_24 _ (.inl h) rfl)) (Nat.le_of_ble_eq_true rfl) ?_
  intro w12 Es2 Bs2
  have F12 := F11.set Es2 (by omega)
  have hzs2 := Es2.size
  refine lx_nil ?_
  refine wk_region ?_
  refine lx_value (want rfl) (mv_int hs1_7) ?_
  refine lx_value (want rfl) (rn_add rfl rfl (by omega)) ?_
  refine lx_value (want rfl) (as_int rfl) ?_
  refine lx_nil ?_
  exact ⟨rfl, ((((((((((((((((((((((((((((((((((A1.up rfl _).up rfl _).up rfl _).up rfl _).up rfl _).up rfl _).up rfl _).up rfl _).up rfl _).up rfl _).up rfl _).up rfl _).up rfl _).up rfl _).up rfl _).up rfl _).up rfl _).up rfl _).up rfl _).up rfl _).up rfl _).up rfl _).up rfl _).up rfl _).up rfl _).up rfl _).up rfl _).up rfl _).up rfl _).up rfl _).none _).up rfl _).up rfl _).up rfl _), Fr.between F6 F12 (by omega), _, (by omega), i + 1, (metL O y.1), (C ++ [renL O y.1]), so1_2, co1_2, sq3, cq3, (TT1_1 ++ [(sN, cN, (renL O y.1))]), Z7, rfl, rfl, (((((BL1_50.ext E2).fr E3 (fun h => tn1L_5_50 _ h rfl)).ext Eb25).fr EA3 (fun h => tn1L_1_50 _ (.inl h) rfl)).ne Es2 (by omega)), (((((BL1_21.ext E2).fr E3 (fun h => tn1L_5_21 _ h rfl)).ext Eb25).fr EA3 (fun h => tn1L_1_21 _ (.inl h) rfl)).ne Es2 (by omega)), (by first | exact Bs2 | (rw [List.length_append]; exact Bs2)), (((((ow1L_2.ext E2).fr E3 (fun k h1 h => ts1L_5_2 k h h1)).ext Eb25).fr EA3 (fun k h1 h => ts1L_1_2 k (.inl h) h1)).ne Es2 (fun h => ne1L_2_24 _ h rfl)), ge1L_2, ne1L_2_50, ne1L_2_21, ne1L_2_24, (tw3.fr Es2 (fun k hk h => tn3_24 k hk h)), tg3, tn3_50, tn3_21, tn3_24, ts3_2, (((hMN.ext Eb25).fr EA3 (fun k h1 h => (fun k h1 h2 => tt5_1 k h2 h1) k (.inl h) h1)).fr Es2 (fun k hk h => tn5_24 k hk h)), tg5, tn5_50, tn5_21, tn5_24, ts5_2, tt3_5, (by obtain ⟨xx, hxx⟩ := metL_app y.1 O; rw [hxx, List.length_append]; omega), (hO.on (vals_refs hyv)), (by rw [List.map_append, hT1]; rfl), (by rw [List.length_append, hCi]; rfl), (draw_on hdr hx hy (by omega))⟩
 ·
  refine lx_nil ?_
  refine wk_cond_f rfl ?_
  refine wk_exit ?_
  refine wk_seq ?_
  refine wk_region ?_
  refine lx_value (want rfl) (rn_loadBlk ag_45 sz_45 (A1.at 6 rfl rfl) BL1_24 rfl rfl) ?_
  refine lx_set (want rfl) sz_45 (A1.at 4 rfl rfl) (t_agg rfl) rfl rfl rfl BL1_21 (Nat.le_of_ble_eq_true rfl) ?_
  intro w8 Es3 Bs3
  have F13 := F7.set Es3 (by omega)
  have hzs3 := Es3.size
  refine lx_nil ?_
  refine wk_ret ?_
  refine retR1 Tryz.results76 (.cell (A1.at 4 rfl rfl) (run_loadVar_blk ag_45 sz_45 Bs3 rfl rfl)) F13 ?_
  exact picR_draw (ow1L_2.ne Es3 (fun h => ne1L_2_21 _ h rfl)) ge1L_2 (tw1L_1.fr Es3 (fun k hk h => tn1L_1_21 k hk h)) hT1 hdr hlt tg1L_1

set_option maxRecDepth 100000 in
theorem samemem_ct (a : Mem) (sa : Option Addr) (ca : Nat) (Fa : Nat → Prop) (b : Mem) (sb : Option Addr) (cb : Nat) (Fb : Nat → Prop) (hB : Bm b) (w0 : World) (ha : MemS Fa w0 sa a) (hb : MemS Fb w0 sb b) :
  CT Tryz.prog 24 [.agg #[.slice sa a.length ca], .agg #[.slice sb b.length cb]] w0 no (fun v _ => v = .bool (decide (a = b))) := by
 have hB1 := hB.1
 have F0 := Fr.refl no w0
 refine ct_body Tryz.func24 rfl Tryz.ntmps24 (Nat.le_of_ble_eq_true rfl) ?_
 refine wk_seq ?_
 refine wk_region ?_
 refine lx_new (want rfl) (rn_box (t_agg rfl)) ?_
 intro b1 w1 hb1 Eb1 B1 hlb1
 have F1 := F0.ext Eb1
 have hzb1 := Eb1.size
 refine lx_new (want rfl) (rn_box (t_agg rfl)) ?_
 intro b2 w2 hb2 Eb2 B2 hlb2
 have F2 := F1.ext Eb2
 have hzb2 := Eb2.size
 refine lx_value (want rfl) (as_bool rfl) ?_
 refine lx_nil ?_
 refine wk_seq ?_
 refine wk_seq ?_
 refine wk_region ?_
 refine lx_value (want rfl) (rn_fieldAddr fa_24_0 rfl) ?_
 refine lx_value (want rfl) (rn_load1Blk ag_22 rfl (B1.ext Eb2) rfl) ?_
 refine lx_value (want rfl) (rn_len Tryz.underlying22 rfl) ?_
 refine lx_value (want rfl) (rn_fieldAddr fa_24_0 rfl) ?_
 refine lx_value (want rfl) (rn_load1Blk ag_22 rfl B2 rfl) ?_
 refine lx_value (want rfl) (rn_len Tryz.underlying22 rfl) ?_
 refine lx_value (want rfl) (rn_neq rfl rfl) ?_
 refine lx_dec (fun h1 => ?_) (fun h1 => ?_)
 ·
  refine lx_nil ?_
  refine wk_cond_t rfl ?_
  refine wk_seq ?_
  refine wk_region ?_
  refine lx_value (want rfl) (as_bool rfl) ?_
  refine lx_nil ?_
  refine wk_ret ?_
  refine retR1 Tryz.results24 (.tmp (t_bool rfl)) F2 ?_
  exact no_dec (fun h => len_ne h1 h)
 ·
  refine lx_nil ?_
  refine wk_cond_f rfl ?_
  refine wk_skip ?_
  refine wk_seq ?_
  refine wk_seq ?_
  refine wk_region ?_
  refine lx_value (want rfl) (as_int rfl) ?_
  refine lx_nil ?_
  refine wk_block ?_
  refine wk_loopA [4, 5, 6, 7, 8, 16, 17, 18, 19, 20, 21, 22, 23, 24, 25, 26, 27, 28, 29, 30, 31, 32, 33, 34, 35, 36, 37, 38, 39, 40, 41, 42, 43, 44, 45, 46, 47, 48, 49, 50, 51, 52, 53, 54, 55, 56, 57, 58, 59, 60, 61, 62, 63, 64, 65] no (fun nM ρ w => ∃ (i : Nat), nM = a.length - i ∧ ρ 5 = .int .i64 i ∧ (i ≤ a.length) ∧ (a.take i = b.take i)) _ ⟨0, rfl, rfl, by omega, rfl⟩ ?_
  rintro n1 ρ1 w3 A1 EL1 ⟨i, rfl, hs1_5, hi, hq⟩
  have F3 := F2.ext EL1
  have hzL1 := EL1.size
  refine wk_seq ?_
  refine wk_seq ?_
  refine wk_region ?_
  refine lx_value (want rfl) (mv_int hs1_5) ?_
  refine lx_value (want rfl) (rn_fieldAddr fa_24_0 (A1.at 2 rfl rfl)) ?_
  refine lx_value (want rfl) (rn_load1Blk ag_22 rfl ((B1.ext Eb2).ext EL1) rfl) ?_
  refine lx_value (want rfl) (rn_len Tryz.underlying22 rfl) ?_
  refine lx_value (want rfl) (rn_lss rfl rfl) ?_
  refine lx_dec (fun hlt => ?_) (fun hlt => ?_)
  ·
   obtain ⟨x, hx⟩ := getx hlt
   obtain ⟨y, hy⟩ : ∃ y, b[i]? = some y := getx (by omega)
   obtain ⟨bx, ox, rfl, _, sx, cx, sxw, cxw, hcx, hcxw, hpx, hpxw⟩ := ha i x hx
   obtain ⟨by_, oy, rfl, _, sy, cy, syw, cyw, hcy, hcyw, hpy, hpyw⟩ := hb i y hy
   have hBy := hB.get hy
   refine lx_nil ?_
   refine wk_cond_t rfl ?_
   refine wk_skip ?_
   refine wk_seq ?_
   refine wk_block ?_
   refine wk_seq ?_
   refine wk_mix 14 (fun kS => match kS with | 10 => .any (fun I v w => v = .pointer (some ⟨I.1, 0, none⟩) ∧ w3.heap.size ≤ I.1 ∧ I.1 < I.2 ∧ Blk w I.1 [.slice none 0 0, .slice none 0 0] 65) | 11 => .any (fun I v w => v = .pointer (some ⟨I.1, 0, none⟩) ∧ w3.heap.size ≤ I.1 ∧ I.1 < I.2 ∧ Blk w I.1 [.slice none 0 0, .slice none 0 0] 65) | 12 => .sto 6 27 (fun J u w => J.1 < J.2 ∧ Blk w J.1 u.cells.toList 65) | 13 => .sto 7 32 (fun J u w => J.1 < J.2 ∧ Blk w J.1 u.cells.toList 65) | _ => .none) (by kernel_rfl) (by kernel_rfl) (by intro kS G hk; (try dsimp only at hk); (split at hk) <;> first | (cases hk; done) | (injection hk with hk; subst hk; exact ⟨by intro j hkj I v w w' hR hG; first | exact hG | (obtain ⟨h1, h2, hI, h3⟩ := hG; exact ⟨h1, h2, hI, h3.ext hR⟩) | (obtain ⟨h1, h2, hI, h3⟩ := hG; exact ⟨h1, h2, hI, h3.ext hR⟩), fun _ I v w w' hR hG => by first | exact hG | (obtain ⟨h1, h2, hI, h3⟩ := hG; exact ⟨h1, h2, hI, h3.fr hR (fun h => h.2 ⟨Nat.le_refl _, hI⟩)⟩) | (obtain ⟨h1, h2, hI, h3⟩ := hG; exact ⟨h1, h2, hI, h3.fr hR (fun h => h.2 ⟨Nat.le_refl _, hI⟩)⟩)⟩)) (by intro kS s y G hk; (try dsimp only at hk); (split at hk) <;> first | (cases hk; done) | (injection hk with hk1 hk2 hk3; subst hk1; subst hk2; subst hk3; exact ⟨by kernel_rfl, by intro j hkj I v w w' hR hG; exact ⟨hG.1, hG.2.ext hR⟩, fun I v w w' hR hG => ⟨hG.1, hG.2.fr hR (fun h => h.2 ⟨Nat.le_refl _, hG.1⟩)⟩⟩)) ?_
   simp only [List.take_succ_cons, List.take_zero, List.take_nil, List.drop_succ_cons, List.drop_zero, List.drop_nil]
   refine mx_calm rfl (want rfl) (fun u1 eu1 fu1 => rn_fieldAddr fa_24_0 (A1.at 2 rfl rfl)) ?_
   refine mx_calm rfl (want rfl) (fun u2 eu2 fu2 => rn_load1Blk ag_22 rfl (((B1.ext Eb2).ext EL1).ext ((ext_drawn _).trans' eu2)) rfl) ?_
   refine mx_calm rfl (want rfl) (fun u3 eu3 fu3 => mv_int hs1_5) ?_
   refine mx_calm rfl (want rfl) (fun u4 eu4 fu4 => rn_index _ Tryz.underlying22 sz_65 rfl rfl rfl (by omega)) ?_
   refine mx_calm rfl (want rfl) (fun u5 eu5 fu5 => rn_load2 ag_65 sz_65 rfl ((F3.ext ((ext_drawn _).trans' eu5)).cell (fun h => h) hcx) ((F3.ext ((ext_drawn _).trans' eu5)).cell (fun h => h) hcxw)) ?_
   refine mx_calm rfl (want rfl) (fun u6 eu6 fu6 => rn_fieldAddr fa_24_0 (A1.at 3 rfl rfl)) ?_
   refine mx_calm rfl (want rfl) (fun u7 eu7 fu7 => rn_load1Blk ag_22 rfl ((B2.ext EL1).ext ((ext_drawn _).trans' eu7)) rfl) ?_
   refine mx_calm rfl (want rfl) (fun u8 eu8 fu8 => mv_int hs1_5) ?_
   refine mx_calm rfl (want rfl) (fun u9 eu9 fu9 => rn_index _ Tryz.underlying22 sz_65 rfl rfl rfl (by omega)) ?_
   refine mx_calm rfl (want rfl) (fun u10 eu10 fu10 => rn_load2 ag_65 sz_65 rfl ((F3.ext ((ext_drawn _).trans' eu10)).cell (fun h => h) hcy) ((F3.ext ((ext_drawn _).trans' eu10)).cell (fun h => h) hcyw)) ?_
   refine mx_any rfl rfl (want rfl) (fun u11 eu11 fu11 => (do_new3 (rn_alloc ze_65) (show _ ≤ _ from (((ext_drawn _).trans' eu11)).size)).mono (fun v w' h => ⟨h.1, h.2⟩)) (fun I6 v6 => ?_)
   refine mx_any rfl rfl (want rfl) (fun u12 eu12 fu12 => (do_new3 (rn_alloc ze_65) (show _ ≤ _ from (((ext_drawn _).trans' eu12)).size)).mono (fun v w' h => ⟨h.1, h.2⟩)) (fun I7 v7 => ?_)
   refine mx_sto rfl rfl rfl rfl (want rfl) (fun u13 eu13 fu13 _ => by obtain ⟨rfl, hl6, hi6, hB6⟩ := fu13 6 _ rfl (show (6 : Nat) ∈ _ from by decide); exact (do_sto sz_65 rfl rfl rfl rfl rfl hB6 rfl ⟨Nat.le_refl _, hi6⟩).mono (fun v w' h => ⟨h.1, h.2.1, hi6, h.2.2⟩)) ?_
   refine mx_sto rfl rfl rfl rfl (want rfl) (fun u14 eu14 fu14 _ => by obtain ⟨rfl, hl7, hi7, hB7⟩ := fu14 7 _ rfl (show (7 : Nat) ∈ _ from by decide); exact (do_sto sz_65 rfl rfl rfl rfl rfl hB7 rfl ⟨Nat.le_refl _, hi7⟩).mono (fun v w' h => ⟨h.1, h.2.1, hi7, h.2.2⟩)) ?_
   refine mx_nil (fun w4 E1' H1 HS => ?_)
   have E1 := (ext_drawn _).trans' E1'
   have F4 := F3.ext E1
   have hz1 := E1.size
   have hI7 := (HS.1 7 _ rfl).2
   have hI6 := (HS.1 6 _ rfl).2
   have hX7_6 := HS.2 7 _ 6 _ rfl rfl (show (7 : Nat) ≠ 6 from by decide)
   simp only at hI7
   simp only at hI6
   simp only at hX7_6
   have g7 := H1 7 _ rfl
   obtain ⟨⟨_, hv7, hb7, _, _⟩, hi7, hB7⟩ := g7; subst hv7; have hlb7 := hB7.lt
   have g6 := H1 6 _ rfl
   obtain ⟨⟨_, hv6, hb6, _, _⟩, hi6, hB6⟩ := g6; subst hv6; have hlb6 := hB6.lt
   refine lx_nil ?_
   refine wk_seq ?_
   refine wk_seq ?_
   refine wk_region ?_
   refine lx_value (want rfl) (rn_fieldAddr fa_65_0 rfl) ?_
   refine lx_value (want rfl) (rn_load1Blk ag_30 rfl hB6 rfl) ?_
   refine lx_value (want rfl) (rn_fieldAddr fa_65_0 rfl) ?_
   refine lx_value (want rfl) (rn_load1Blk ag_30 rfl hB7 rfl) ?_
   refine lx_call (want rfl) (ent_func cf_25 (argsC (t_slice rfl) (argsC (t_slice rfl) args0))) (samevalues_ct x.1 y.1 _ _ _ _ _ _ w4 (hpx.fr (vl_stab _) F4 (fun _ _ h => h)) (hpy.fr (vl_stab _) F4 (fun _ _ h => h)) hBy.1) ?_
   rintro _ w5 E2 rfl
   have F5 := F4.ext E2
   have hz2 := E2.size
   refine lx_split (fun h2 => ?_) (fun h2 => ?_)
   ·
    refine lx_value (want rfl) (rn_not rfl) ?_
    refine lx_value (want rfl) (mv_bool rfl) ?_
    refine lx_value (want_if (j := 6) (d := 39) (x := false) (y := false) rfl rfl (by decide) rfl) (rn_fieldAddr fa_65_1 rfl) ?_
    refine lx_value (want_if (j := 6) (d := 39) (x := false) (y := false) rfl rfl (by decide) rfl) (rn_load1Blk ag_63 rfl (hB6.ext E2) rfl) ?_
    refine lx_value (want_if (j := 6) (d := 39) (x := false) (y := false) rfl rfl (by decide) rfl) (rn_len Tryz.underlying63 rfl) ?_
    refine lx_value (want_if (j := 6) (d := 39) (x := false) (y := false) rfl rfl (by decide) rfl) (rn_fieldAddr fa_65_1 rfl) ?_
    refine lx_value (want_if (j := 6) (d := 39) (x := false) (y := false) rfl rfl (by decide) rfl) (rn_load1Blk ag_63 rfl (hB7.ext E2) rfl) ?_
    refine lx_value (want_if (j := 6) (d := 39) (x := false) (y := false) rfl rfl (by decide) rfl) (rn_len Tryz.underlying63 rfl) ?_
    refine lx_value (want_if (j := 6) (d := 39) (x := false) (y := false) rfl rfl (by decide) rfl) (rn_neq rfl rfl) ?_
    refine lx_dec (fun h3 => ?_) (fun h3 => ?_)
    ·
     refine lx_value (want rfl) (pick_f rfl rfl) ?_
     refine lx_nil ?_
     refine wk_cond_t rfl ?_
     refine wk_seq ?_
     refine wk_region ?_
     refine lx_value (want rfl) (as_bool rfl) ?_
     refine lx_nil ?_
     refine wk_ret ?_
     refine retR1 Tryz.results24 (.tmp (t_bool rfl)) F5 ?_
     exact no_dec (fun h => eqs_ne hx hy (fun e => h3 (by rw [e])) h)
    ·
     refine lx_value (want rfl) (pick_f rfl rfl) ?_
     refine lx_nil ?_
     refine wk_cond_f rfl ?_
     refine wk_skip ?_
     refine wk_seq ?_
     refine wk_region ?_
     refine lx_value (want rfl) (as_int rfl) ?_
     refine lx_nil ?_
     refine wk_block ?_
     refine wk_loopA [4, 8, 48, 49, 50, 51, 52, 53, 54, 55, 56, 57, 58, 59, 60, 61, 62, 63, 64, 65] no (fun nM ρ w => ∃ (k : Nat), nM = x.2.length - k ∧ ρ 8 = .int .i64 k ∧ (k ≤ x.2.length) ∧ (x.2.take k = y.2.take k)) _ ⟨0, rfl, rfl, by omega, rfl⟩ ?_
     rintro n2 ρ2 w6 A2 EL2 ⟨k, rfl, hs2_8, hk, hqr⟩
     have F6 := F5.ext EL2
     have hzL2 := EL2.size
     refine wk_seq ?_
     refine wk_seq ?_
     refine wk_region ?_
     refine lx_value (want rfl) (mv_int hs2_8) ?_
     refine lx_value (want rfl) (rn_fieldAddr fa_65_1 (A2.at 6 rfl rfl)) ?_
     refine lx_value (want rfl) (rn_load1Blk ag_63 rfl ((hB6.ext E2).ext EL2) rfl) ?_
     refine lx_value (want rfl) (rn_len Tryz.underlying63 rfl) ?_
     refine lx_value (want rfl) (rn_lss rfl rfl) ?_
     refine lx_dec (fun hlt2 => ?_) (fun hlt2 => ?_)
     ·
      obtain ⟨r, hr⟩ := getx hlt2
      obtain ⟨q, hq2⟩ : ∃ q, y.2[k]? = some q := getx (by omega)
      obtain ⟨br, or_, hsr, _, hcr⟩ := hpxw k r hr
      obtain ⟨bq, oq, hsq, _, hcq⟩ := hpyw k q hq2
      subst hsr
      subst hsq
      refine lx_nil ?_
      refine wk_cond_t rfl ?_
      refine wk_skip ?_
      refine wk_seq ?_
      refine wk_block ?_
      refine wk_seq ?_
      refine wk_mix 10 (fun _ => .none) (by kernel_rfl) (by kernel_rfl) (fun kS G hk => by cases hk) (fun kS s y G hk => by cases hk) ?_
      simp only [List.take_succ_cons, List.take_zero, List.take_nil, List.drop_succ_cons, List.drop_zero, List.drop_nil]
      refine mx_calm rfl (want rfl) (fun u15 eu15 fu15 => rn_fieldAddr fa_65_1 (A2.at 6 rfl rfl)) ?_
      refine mx_calm rfl (want rfl) (fun u16 eu16 fu16 => rn_load1Blk ag_63 rfl (((hB6.ext E2).ext EL2).ext ((ext_drawn _).trans' eu16)) rfl) ?_
      refine mx_calm rfl (want rfl) (fun u17 eu17 fu17 => mv_int hs2_8) ?_
      refine mx_calm rfl (want rfl) (fun u18 eu18 fu18 => rn_index _ Tryz.underlying63 sz_115 rfl rfl rfl (by omega)) ?_
      refine mx_calm rfl (want rfl) (fun u19 eu19 fu19 => rn_load2 ag_115 sz_115 rfl ((F6.ext ((ext_drawn _).trans' eu19)).cell (fun h => h) (hcr 0 _ rfl)) ((F6.ext ((ext_drawn _).trans' eu19)).cell (fun h => h) (hcr 1 _ rfl))) ?_
      refine mx_calm rfl (want rfl) (fun u20 eu20 fu20 => rn_fieldAddr fa_65_1 (A2.at 7 rfl rfl)) ?_
      refine mx_calm rfl (want rfl) (fun u21 eu21 fu21 => rn_load1Blk ag_63 rfl (((hB7.ext E2).ext EL2).ext ((ext_drawn _).trans' eu21)) rfl) ?_
      refine mx_calm rfl (want rfl) (fun u22 eu22 fu22 => mv_int hs2_8) ?_
      refine mx_calm rfl (want rfl) (fun u23 eu23 fu23 => rn_index _ Tryz.underlying63 sz_115 rfl rfl rfl (by omega)) ?_
      refine mx_calm rfl (want rfl) (fun u24 eu24 fu24 => rn_load2 ag_115 sz_115 rfl ((F6.ext ((ext_drawn _).trans' eu24)).cell (fun h => h) (hcq 0 _ rfl)) ((F6.ext ((ext_drawn _).trans' eu24)).cell (fun h => h) (hcq 1 _ rfl))) ?_
      refine mx_nil (fun w7 E3' H2 HS => ?_)
      have E3 := (ext_drawn _).trans' E3'
      have F7 := F6.ext E3
      have hz3 := E3.size
      refine lx_value (want rfl) (rn_cmpS (t_agg rfl) (t_agg rfl) (gneq_115 _ _ _ _) (neq_115 _ _ _ _)) ?_
      refine lx_dec (fun hne => ?_) (fun hne => ?_)
      ·
       refine lx_nil ?_
       refine wk_cond_t rfl ?_
       refine wk_seq ?_
       refine wk_region ?_
       refine lx_value (want rfl) (as_bool rfl) ?_
       refine lx_nil ?_
       refine wk_ret ?_
       refine retR1 Tryz.results24 (.tmp (t_bool rfl)) F7 ?_
       exact no_dec (fun h => eqs_ne hx hy (fun e => eqs_ne hr hq2 (rd_ne hne) (by rw [e])) h)
      ·
       refine lx_nil ?_
       refine wk_cond_f rfl ?_
       refine wk_skip ?_
       refine wk_region ?_
       refine lx_value (want rfl) (mv_int hs2_8) ?_
       refine lx_value (want rfl) (rn_add rfl rfl (by omega)) ?_
       refine lx_value (want rfl) (as_int rfl) ?_
       refine lx_nil ?_
       exact ⟨rfl, (((((((((((((((((((A2.up rfl _).up rfl _).up rfl _).up rfl _).up rfl _).up rfl _).up rfl _).up rfl _).up rfl _).up rfl _).up rfl _).up rfl _).up rfl _).up rfl _).up rfl _).up rfl _).up rfl _).up rfl _).up rfl _), (Fr.ext EL2 E3), _, (by omega), k + 1, rfl, rfl, by omega, (eqs_step hqr hr hq2 (rd_eq hne))⟩
     ·
      refine lx_nil ?_
      refine wk_cond_f rfl ?_
      refine wk_exit ?_
      refine wk_region ?_
      refine lx_value (want rfl) (mv_int (A2.at 5 rfl hs1_5)) ?_
      refine lx_value (want rfl) (rn_add rfl rfl (by omega)) ?_
      refine lx_value (want rfl) (as_int rfl) ?_
      refine lx_nil ?_
      exact ⟨rfl, ((((((((((((((((((((((((((((((((((((((((((((A1.up rfl _).up rfl _).up rfl _).up rfl _).up rfl _).up rfl _).up rfl _).up rfl _).up rfl _).up rfl _).up rfl _).up rfl _).up rfl _).up rfl _).up rfl _).up rfl _).up rfl _).none _).none _).up rfl _).up rfl _).up rfl _).up rfl _).up rfl _).up rfl _).up rfl _).up rfl _).up rfl _).up rfl _).up rfl _).up rfl _).up rfl _).up rfl _).up rfl _).up rfl _).loop A2 rfl).up rfl _).up rfl _).up rfl _).up rfl _).up rfl _).up rfl _).up rfl _).up rfl _), (Fr.ext (Fr.ext (Fr.ext EL1 E1) E2) EL2), _, (by omega), i + 1, rfl, rfl, by omega, (eqs_step hq hx hy (st_eq (of_decide_eq_true h2) (eqs_end hqr (by omega) hlt2)))⟩
   ·
    refine lx_value (want rfl) (rn_not rfl) ?_
    refine lx_value (want rfl) (mv_bool rfl) ?_
    refine lx_skip (want_if (j := 6) (d := 39) (x := false) (y := true) rfl rfl (by decide) rfl) ?_
    refine lx_skip (want_if (j := 6) (d := 39) (x := false) (y := true) rfl rfl (by decide) rfl) ?_
    refine lx_skip (want_if (j := 6) (d := 39) (x := false) (y := true) rfl rfl (by decide) rfl) ?_
    refine lx_skip (want_if (j := 6) (d := 39) (x := false) (y := true) rfl rfl (by decide) rfl) ?_
    refine lx_skip (want_if (j := 6) (d := 39) (x := false) (y := true) rfl rfl (by decide) rfl) ?_
    refine lx_skip (want_if (j := 6) (d := 39) (x := false) (y := true) rfl rfl (by decide) rfl) ?_
    refine lx_skip (want_if (j := 6) (d := 39) (x := false) (y := true) rfl rfl (by decide) rfl) ?_
    refine lx_value (want rfl) (pick_t rfl rfl) ?_
    refine lx_nil ?_
    refine wk_cond_t rfl ?_
    refine wk_seq ?_
    refine wk_region ?_
    refine lx_value (want rfl) (as_bool rfl) ?_
    refine lx_nil ?_
    refine wk_ret ?_
    refine retR1 Tryz.results24 (.tmp (t_bool rfl)) F5 ?_
    exact no_dec (fun h => eqs_ne hx hy (fun e => of_decide_eq_false h2 (by rw [e])) h)
  ·
   refine lx_nil ?_
   refine wk_cond_f rfl ?_
   refine wk_exit ?_
   refine wk_seq ?_
   refine wk_region ?_
   refine lx_value (want rfl) (as_bool rfl) ?_
   refine lx_nil ?_
   refine wk_ret ?_
   refine retR1 Tryz.results24 (.tmp (t_bool rfl)) F3 ?_
   exact yes_dec (eqs_end hq (by omega) hlt)

theorem copy_ct (m : Mem) (s : Option Addr) (c : Nat) (G : Nat → Prop) (hB : Bm m) (w0 : World) (hm : MemS G w0 s m) :
  CT Tryz.prog 20 [.agg #[.slice s m.length c]] w0 no (fun v w => MemT w0.heap.size w v m) := by
 have hBl := hB.1
 have F0 := Fr.refl no w0
 refine ct_body Tryz.func20 rfl Tryz.ntmps20 (Nat.le_of_ble_eq_true rfl) ?_
 refine wk_seq ?_
 refine wk_region ?_
 refine lx_new (want rfl) (rn_box (t_agg rfl)) ?_
 intro b1 w1 hb1 Eb1 B1 hlb1
 have F1 := F0.ext Eb1
 have hzb1 := Eb1.size
 refine lx_new (want rfl) (rn_alloc ze_24) ?_
 intro b2 w2 hb2 Eb2 B2 hlb2
 have F2 := F1.ext Eb2
 have hzb2 := Eb2.size
 refine lx_nil ?_
 refine wk_seq ?_
 refine wk_region ?_
 refine lx_value (want rfl) (rn_build0  (fun w => bd_24  w)) ?_
 refine lx_new (want rfl) (rn_alloc ze_24) ?_
 intro b3 w3 hb3 Eb3 B3 hlb3
 have F3 := F2.ext Eb3
 have hzb3 := Eb3.size
 refine lx_set (want rfl) sz_24 rfl (t_agg rfl) rfl rfl rfl B3 (Nat.le_of_ble_eq_true rfl) ?_
 intro w4 Es1 Bs1
 have F4 := F3.set Es1 (by omega)
 have hzs1 := Es1.size
 refine lx_nil ?_
 refine wk_seq ?_
 refine wk_seq ?_
 refine wk_region ?_
 refine lx_value (want rfl) (as_int rfl) ?_
 refine lx_nil ?_
 refine wk_block ?_
 refine wk_loopA [4, 5, 7, 8, 9, 10, 11, 12, 13, 14, 15, 16, 17, 18, 19, 20, 21, 22, 23, 24, 25, 26, 27, 28, 29, 30, 31] (fun j => no j ∨ w0.heap.size ≤ j) (fun nM ρ w => ∃ (i : Nat) (st1_1 : Option Addr) (ct1_1 : Nat) (TT1_1 : List (SE Vl Rd)), nM = m.length - i ∧ ρ 4 = .int .i64 i ∧ Blk w b1 (cellsOf B1) 24 ∧ Blk w b2 (cellsOf B2) 24 ∧ Blk w b3 [.slice st1_1 TT1_1.length ct1_1] 24 ∧ MTab w 65 36 2 vlC 115 2 rdC st1_1 ct1_1 TT1_1 ∧ (∀ k, mtb st1_1 TT1_1 k → w0.heap.size ≤ k) ∧ (∀ k, mtb st1_1 TT1_1 k → k ≠ b1) ∧ (∀ k, mtb st1_1 TT1_1 k → k ≠ b2) ∧ (∀ k, mtb st1_1 TT1_1 k → k ≠ b3) ∧ (i ≤ m.length) ∧ (TT1_1.map SE.abs = m.take i)) _ ⟨0, none, 0, ([] : List (SE Vl Rd)), rfl, rfl, (((B1.ext Eb2).ext Eb3).ne Es1 (by omega)), ((B2.ext Eb3).ne Es1 (by omega)), Bs1, (MTab.nil w4 65 36 2 vlC 115 2 rdC), (fun _ h => mtb_nil h), (fun _ h => mtb_nil h), (fun _ h => mtb_nil h), (fun _ h => mtb_nil h), by omega, rfl⟩ ?_
 rintro n1 ρ1 w5 A1 EL1 ⟨i, st1_1, ct1_1, TT1_1, rfl, hs1_4, BL1_1, BL1_2, BL1_3, tw1L_1, tg1L_1, tn1L_1_1, tn1L_1_2, tn1L_1_3, hi, hT⟩
 have F5 := F4.wide EL1
 have hzL1 := EL1.size
 refine wk_seq ?_
 refine wk_seq ?_
 refine wk_region ?_
 refine lx_value (want rfl) (mv_int hs1_4) ?_
 refine lx_value (want rfl) (rn_fieldAddr fa_24_0 (A1.at 1 rfl rfl)) ?_
 refine lx_value (want rfl) (rn_load1Blk ag_22 rfl BL1_1 rfl) ?_
 refine lx_value (want rfl) (rn_len Tryz.underlying22 rfl) ?_
 refine lx_value (want rfl) (rn_lss rfl rfl) ?_
 refine lx_dec (fun hlt => ?_) (fun hlt => ?_)
 ·
  obtain ⟨x, hx⟩ := getx hlt
  obtain ⟨bx, ox, rfl, _, sc, cc, sw, cw, hcx, hcy, hcv, hcr⟩ := hm i x hx
  have hBx := hB.get hx
  refine lx_nil ?_
  refine wk_cond_t rfl ?_
  refine wk_skip ?_
  refine wk_seq ?_
  refine wk_block ?_
  refine wk_seq ?_
  refine wk_region ?_
  refine lx_value (want rfl) (rn_fieldAddr fa_24_0 (A1.at 1 rfl rfl)) ?_
  refine lx_value (want rfl) (rn_load1Blk ag_22 rfl BL1_1 rfl) ?_
  refine lx_value (want rfl) (mv_int hs1_4) ?_
  refine lx_value (want rfl) (rn_index _ Tryz.underlying22 sz_65 rfl rfl rfl (by omega)) ?_
  refine lx_value (want rfl) (rn_load2 ag_65 sz_65 rfl (F5.cell (fun h => h) hcx) (F5.cell (fun h => h) hcy)) ?_
  refine lx_new (want rfl) (rn_alloc ze_65) ?_
  intro b4 w6 hb4 Eb4 B4 hlb4
  have F6 := F5.ext Eb4
  have hzb4 := Eb4.size
  have nb1 : ∀ k, mtb st1_1 TT1_1 k → k ≠ b4 := fun k hk => by have := (tw1L_1).lt hk; omega
  refine lx_set (want rfl) sz_65 rfl (t_agg rfl) rfl rfl rfl B4 (Nat.le_of_ble_eq_true rfl) ?_
  intro w7 Es2 Bs2
  have F7 := F6.set Es2 (by omega)
  have hzs2 := Es2.size
  refine lx_nil ?_
  have hTo := ((tw1L_1.ext Eb4).fr Es2 (fun k hk h => nb1 k hk h))
  have hSl : ∀ k, (ob st1_1) k → k < w7.heap.size := fun k h => (((tw1L_1.ext Eb4).fr Es2 (fun k hk h => nb1 k hk h))).lt (.inl h)
  refine wk_mixA 13 11 (ob st1_1) (fun kS => match kS with | 4 => .any (fun I v w => ∃ s c, v = .slice s x.1.length c ∧ OwnS w 36 2 s x.1.length c (x.1.flatMap vlC) ∧ ∀ k, ob s k → w7.heap.size ≤ k) | 5 => .any (fun I v w => ∃ b, v = .slice (some ⟨b, 0, none⟩) 0 0 ∧ w7.heap.size ≤ b ∧ (I.1 ≤ b ∧ b < I.2) ∧ Blk w b [] 115) | 8 => .any (fun I v w => ∃ s c, v = .slice s x.2.length c ∧ OwnS w 115 2 s x.2.length c (x.2.flatMap rdC) ∧ ∀ k, ob s k → w7.heap.size ≤ k) | 9 => .any (fun I v w => ∃ s1 c1 s2 c2, v = .agg #[.slice s1 x.1.length c1, .slice s2 x.2.length c2] ∧ OwnS w 36 2 s1 x.1.length c1 (x.1.flatMap vlC) ∧ (∀ k, ob s1 k → w7.heap.size ≤ k) ∧ OwnS w 115 2 s2 x.2.length c2 (x.2.flatMap rdC) ∧ ∀ k, ob s2 k → w7.heap.size ≤ k) | 10 => .any (fun I v w => ∃ b s1 c1 s2 c2, v = .slice (some ⟨b, 0, none⟩) 1 1 ∧ w7.heap.size ≤ b ∧ Blk w b [.slice s1 x.1.length c1, .slice s2 x.2.length c2] 65 ∧ OwnS w 36 2 s1 x.1.length c1 (x.1.flatMap vlC) ∧ (∀ k, ob s1 k → w7.heap.size ≤ k) ∧ OwnS w 115 2 s2 x.2.length c2 (x.2.flatMap rdC) ∧ ∀ k, ob s2 k → w7.heap.size ≤ k) | 11 => .any (fun I v w => ∃ (e : SE Vl Rd) (s : Option Addr) (c : Nat), v = .slice s (TT1_1 ++ [e]).length c ∧ e.abs = x ∧ MTab w 65 36 2 vlC 115 2 rdC s c (TT1_1 ++ [e]) ∧ ∀ k, mtb s (TT1_1 ++ [e]) k → (mtb st1_1 TT1_1 k ∨ w7.heap.size ≤ k)) | _ => .none) (by kernel_rfl) (by kernel_rfl) (by intro kS G hk; (try dsimp only at hk); (split at hk) <;> first | (cases hk; done) | (injection hk with hk; subst hk; exact ⟨by intro j hkj I v w w' hR hG; first | exact hG | (obtain ⟨s, c, h1, h2, h3⟩ := hG; exact ⟨s, c, h1, h2.fr (mS hR) (fun k hk hs => by have := h3 k hk; have := hTo.out.lt hs; omega), h3⟩) | (obtain ⟨b, h1, h2, hI, h3⟩ := hG; exact ⟨b, h1, h2, hI, h3.fr (mS hR) (fun hs => by have := hSl _ hs; omega)⟩) | (obtain ⟨s, c, h1, h2, h3⟩ := hG; exact ⟨s, c, h1, h2.fr (mS hR) (fun k hk hs => by have := h3 k hk; have := hTo.out.lt hs; omega), h3⟩) | (obtain ⟨s1, c1, s2, c2, h1, h4, h5, h6, h7⟩ := hG; exact ⟨s1, c1, s2, c2, h1, h4.fr (mS hR) (fun k hk hs => by have := h5 k hk; have := hTo.out.lt hs; omega), h5, h6.fr (mS hR) (fun k hk hs => by have := h7 k hk; have := hTo.out.lt hs; omega), h7⟩) | (obtain ⟨b, s1, c1, s2, c2, h1, h2, h3, h4, h5, h6, h7⟩ := hG; exact ⟨b, s1, c1, s2, c2, h1, h2, h3.fr (mS hR) (fun hs => by have := hTo.out.lt hs; omega), h4.fr (mS hR) (fun k hk hs => by have := h5 k hk; have := hTo.out.lt hs; omega), h5, h6.fr (mS hR) (fun k hk hs => by have := h7 k hk; have := hTo.out.lt hs; omega), h7⟩) | (obtain ⟨e, s, c, h1, h2, h3, h4⟩ := hG; exact ⟨e, s, c, h1, h2, h3.ext (mT hkj hR), h4⟩), fun ⟨_, _, _, _, hs⟩ => by (try dsimp only at hs); split at hs <;> cases hs⟩)) (by intro kS s y G hk; (try dsimp only at hk); split at hk <;> cases hk) ?_
  simp only [List.take_succ_cons, List.take_zero, List.take_nil, List.drop_succ_cons, List.drop_zero, List.drop_nil]
  refine mx_calm rfl (want rfl) (fun u1 eu1 fu1 => rn_fieldAddr fa_24_0 (A1.at 3 rfl rfl)) ?_
  refine mx_calm rfl (want rfl) (fun u2 eu2 fu2 => rn_load1Blk ag_22 rfl (((BL1_3.ext Eb4).ne Es2 (by omega)).fr (mD (by decide) eu2) (fun h => tn1L_1_3 _ (.inl h) rfl)) rfl) ?_
  refine mx_calm rfl (want rfl) (fun u3 eu3 fu3 => rn_fieldAddr fa_65_0 rfl) ?_
  refine mx_calm rfl (want rfl) (fun u4 eu4 fu4 => rn_load1Blk ag_30 rfl (Bs2.fr (mD (by decide) eu4) (fun h => nb1 _ (.inl h) rfl)) rfl) ?_
  refine mx_any rfl rfl (want rfl) (fun u5 eu5 fu5 => do_call (ent_func cf_28 (argsC (t_slice rfl) args0)) (values_ct x.1 _ _ _ u5 (hcv.fr (vl_stab _) (F7.new (mD (by decide) eu5) (fun k h => tg1L_1 k (.inl h))) (fun _ _ h => h)) hBx.1) (fun v w' E h => ⟨(mE (by decide) E), by obtain ⟨s, c, h1, h2, h3⟩ := h; exact ⟨s, c, h1, h2, fun k hk => Nat.le_trans (mD (by decide) eu5).size (h3 k hk)⟩⟩)) (fun I23 v23 => ?_)
  refine mx_any rfl rfl (want rfl) (fun u6 eu6 fu6 => (do_newS2 (rn_bslice (xs := []) Tryz.underlying63 sz_115 ze_115 rfl args0 CL.nil rfl (Nat.le_of_ble_eq_true rfl)) (show _ ≤ _ from ((mD (by decide) eu6)).size)).mono (fun v w' h => ⟨(mE (by decide) h.1), h.2⟩)) (fun I24 v24 => ?_)
  refine mx_calm rfl (want rfl) (fun u7 eu7 fu7 => rn_fieldAddr fa_65_1 rfl) ?_
  refine mx_calm rfl (want rfl) (fun u8 eu8 fu8 => rn_load1Blk ag_63 rfl (Bs2.fr (mD (by decide) eu8) (fun h => nb1 _ (.inl h) rfl)) rfl) ?_
  refine mx_any rfl rfl (want rfl) (fun u9 eu9 fu9 => by obtain ⟨b24, rfl, hb24, _, hB24⟩ := fu9 24 _ rfl (show (24 : Nat) ∈ _ from by decide); exact do_append0 16 Tryz.underlying63 ti_115 (by decide) rfl (by decide) rfl rfl (OwnS.full (n := 0) (size := 2) hB24 rfl (by decide)) ((hcr.fr (rd_stab _) (F7.new (mD (by decide) eu9) (fun k h => tg1L_1 k (.inl h))) (fun _ _ h => h)).src (fun _ _ => rfl) (fun _ _ u hu => rd_one hu) (by decide)) (by have := hBx.2; omega) (fun sA cA wA hA0 hE0 hK0 => ⟨(mE (by decide) hE0), ⟨sA, cA, rfl, hA0, fun k hk => (hK0 k hk).elim (fun h => by have := ob_some h; omega) (fun h => Nat.le_trans (mD (by decide) eu9).size h)⟩⟩)) (fun I27 v27 => ?_)
  refine mx_any rfl rfl (want rfl) (fun u10 eu10 fu10 => by obtain ⟨s1, c1, rfl, h23, hg23⟩ := fu10 23 _ rfl (show (23 : Nat) ∈ _ from by decide); obtain ⟨s2, c2, rfl, h27, hg27⟩ := fu10 27 _ rfl (show (27 : Nat) ∈ _ from by decide); exact do_value (rn_build2 (t_slice rfl) (t_slice rfl) (fun w => bd_65_0_1 _ _ _ _ _ _ w)) ⟨(mE (by decide) (Fr.refl no _)), ⟨s1, c1, s2, c2, rfl, h23, hg23, h27, hg27⟩⟩) (fun I28 v28 => ?_)
  refine mx_any rfl rfl (want rfl) (fun u11 eu11 fu11 => by obtain ⟨s1, c1, s2, c2, rfl, h23, hg23, h27, hg27⟩ := fu11 28 _ rfl (show (28 : Nat) ∈ _ from by decide); exact (do_newS2 (rn_bslice (xs := [.tmp 28]) Tryz.underlying22 sz_65 ze_65 rfl (argsC (t_agg rfl) args0) (CL.cons rfl rfl CL.nil) rfl (Nat.le_of_ble_eq_true rfl)) (show _ ≤ _ from ((mD (by decide) eu11)).size)).mono (fun v w' h => ⟨(mE (by decide) h.1), by obtain ⟨h1, b, h2, h3, _, h4⟩ := h; exact ⟨b, s1, c1, s2, c2, h2, h3, h4, h23.ext h1, hg23, h27.ext h1, hg27⟩⟩)) (fun I29 v29 => ?_)
  refine mx_any rfl rfl (want rfl) (fun u12 eu12 fu12 => by obtain ⟨b29, s1, c1, s2, c2, rfl, hb29, hB29, h1, hg1, h2, hg2⟩ := fu12 29 _ rfl (show (29 : Nat) ∈ _ from by decide); exact do_append 48 Tryz.underlying22 ti_65 (by decide) rfl (by decide) rfl rfl (((tw1L_1.ext Eb4).fr Es2 (fun k hk h => nb1 k hk h)).ext (mC eu12)).out (Src.blk hB29 rfl rfl) (by rw [show TT1_1.length = i by have := congrArg List.length hT; simp at this; omega]; omega) (fun sA cA wA AP => ⟨(mF AP.fr), by obtain ⟨g1, g2⟩ := MTab.snoc (e := ((s1, c1, x.1), (s2, c2, x.2))) (((tw1L_1.ext Eb4).fr Es2 (fun k hk h => nb1 k hk h)).ext (mC eu12)) h1 h2 (own_types h1 h2 (by decide)) (fun k hk hb => by have := hTo.lt hb; rcases hk with hk | hk; have := hg1 k hk; omega; have := hg2 k hk; omega) AP; exact ⟨_, sA, cA, by simp, rfl, g1, fun k hk => (g2 k hk).elim .inl (fun h => .inr (h.elim (fun h => h.elim (hg1 k) (hg2 k)) (fun h => Nat.le_trans (mC eu12).size h)))⟩⟩)) (fun I30 v30 => ?_)
  refine mx_calm rfl (want rfl) (fun u13 eu13 fu13 => rn_fieldAddr fa_24_0 (A1.at 3 rfl rfl)) ?_
  refine mx_nil (fun w8 E1' H1 HS => ?_)
  have E1 := mG E1'
  have F8 := F7.new E1 (fun k h => tg1L_1 k (.inl h))
  have hz1 := E1.size
  have hI30 := (HS.1 30 _ rfl).2
  have hI29 := (HS.1 29 _ rfl).2
  have hI28 := (HS.1 28 _ rfl).2
  have hI27 := (HS.1 27 _ rfl).2
  have hI24 := (HS.1 24 _ rfl).2
  have hI23 := (HS.1 23 _ rfl).2
  have hX30_29 := HS.2 30 _ 29 _ rfl rfl (show (30 : Nat) ≠ 29 from by decide)
  have hX30_28 := HS.2 30 _ 28 _ rfl rfl (show (30 : Nat) ≠ 28 from by decide)
  have hX30_27 := HS.2 30 _ 27 _ rfl rfl (show (30 : Nat) ≠ 27 from by decide)
  have hX30_24 := HS.2 30 _ 24 _ rfl rfl (show (30 : Nat) ≠ 24 from by decide)
  have hX30_23 := HS.2 30 _ 23 _ rfl rfl (show (30 : Nat) ≠ 23 from by decide)
  have hX29_28 := HS.2 29 _ 28 _ rfl rfl (show (29 : Nat) ≠ 28 from by decide)
  have hX29_27 := HS.2 29 _ 27 _ rfl rfl (show (29 : Nat) ≠ 27 from by decide)
  have hX29_24 := HS.2 29 _ 24 _ rfl rfl (show (29 : Nat) ≠ 24 from by decide)
  have hX29_23 := HS.2 29 _ 23 _ rfl rfl (show (29 : Nat) ≠ 23 from by decide)
  have hX28_27 := HS.2 28 _ 27 _ rfl rfl (show (28 : Nat) ≠ 27 from by decide)
  have hX28_24 := HS.2 28 _ 24 _ rfl rfl (show (28 : Nat) ≠ 24 from by decide)
  have hX28_23 := HS.2 28 _ 23 _ rfl rfl (show (28 : Nat) ≠ 23 from by decide)
  have hX27_24 := HS.2 27 _ 24 _ rfl rfl (show (27 : Nat) ≠ 24 from by decide)
  have hX27_23 := HS.2 27 _ 23 _ rfl rfl (show (27 : Nat) ≠ 23 from by decide)
  have hX24_23 := HS.2 24 _ 23 _ rfl rfl (show (24 : Nat) ≠ 23 from by decide)
  simp only at hI30
  simp only at hI29
  simp only at hI28
  simp only at hI27
  simp only at hI24
  simp only at hI23
  simp only at hX30_29
  simp only at hX30_28
  simp only at hX30_27
  simp only at hX30_24
  simp only at hX30_23
  simp only at hX29_28
  simp only at hX29_27
  simp only at hX29_24
  simp only at hX29_23
  simp only at hX28_27
  simp only at hX28_24
  simp only at hX28_23
  simp only at hX27_24
  simp only at hX27_23
  simp only at hX24_23
  have g30 := H1 30 _ rfl
  obtain ⟨e, sN, cN, rfl, he, hTN, hIN⟩ := g30
  have tg2 : ∀ k, mtb sN (TT1_1 ++ [e]) k → w0.heap.size ≤ k := fun k hk => (hIN k hk).elim (tg1L_1 k) (fun h => by omega)
  have tn2_1 : ∀ k, mtb sN (TT1_1 ++ [e]) k → k ≠ b1 := fun k hk => (hIN k hk).elim (tn1L_1_1 k) (fun h => by have := (BL1_1).lt; omega)
  have tn2_2 : ∀ k, mtb sN (TT1_1 ++ [e]) k → k ≠ b2 := fun k hk => (hIN k hk).elim (tn1L_1_2 k) (fun h => by have := (BL1_2).lt; omega)
  have tn2_3 : ∀ k, mtb sN (TT1_1 ++ [e]) k → k ≠ b3 := fun k hk => (hIN k hk).elim (tn1L_1_3 k) (fun h => by have := (BL1_3).lt; omega)
  have tn2_4 : ∀ k, mtb sN (TT1_1 ++ [e]) k → k ≠ b4 := fun k hk => (hIN k hk).elim (nb1 k) (fun h => by have := (Bs2).lt; omega)
  have g29 := H1 29 _ rfl
  have g28 := H1 28 _ rfl
  have g27 := H1 27 _ rfl
  have g24 := H1 24 _ rfl
  obtain ⟨bS24, rfl, hbbS24, hibS24, hBbS24⟩ := g24
  have g23 := H1 23 _ rfl
  refine lx_set (want rfl) sz_22 rfl (t_slice rfl) rfl rfl rfl (((BL1_3.ext Eb4).ne Es2 (by omega)).fr E1 (fun h => tn1L_1_3 _ (.inl h) rfl)) (Nat.le_of_ble_eq_true rfl) ?_
  intro w9 Es3 Bs3
  have F9 := F8.set Es3 (by omega)
  have hzs3 := Es3.size
  refine lx_nil ?_
  refine wk_region ?_
  refine lx_value (want rfl) (mv_int hs1_4) ?_
  refine lx_value (want rfl) (rn_add rfl rfl (by omega)) ?_
  refine lx_value (want rfl) (as_int rfl) ?_
  refine lx_nil ?_
  exact ⟨rfl, (((((((((((((((((((((((((((((A1.up rfl _).up rfl _).up rfl _).up rfl _).up rfl _).up rfl _).up rfl _).up rfl _).up rfl _).up rfl _).up rfl _).none _).up rfl _).up rfl _).up rfl _).up rfl _).up rfl _).up rfl _).up rfl _).up rfl _).up rfl _).up rfl _).up rfl _).up rfl _).up rfl _).none _).up rfl _).up rfl _).up rfl _), Fr.between F4 F9 (by omega), _, (by omega), i + 1, sN, cN, (TT1_1 ++ [e]), rfl, rfl, ((((BL1_1.ext Eb4).ne Es2 (by omega)).fr E1 (fun h => tn1L_1_1 _ (.inl h) rfl)).ne Es3 (by omega)), ((((BL1_2.ext Eb4).ne Es2 (by omega)).fr E1 (fun h => tn1L_1_2 _ (.inl h) rfl)).ne Es3 (by omega)), Bs3, (hTN.fr Es3 (fun k hk h => tn2_3 k hk h)), tg2, tn2_1, tn2_2, tn2_3, by have := (List.getElem?_eq_some_iff.1 hx).1; omega, (mtab_step hT hx he)⟩
 ·
  refine lx_nil ?_
  refine wk_cond_f rfl ?_
  refine wk_exit ?_
  refine wk_seq ?_
  refine wk_region ?_
  refine lx_value (want rfl) (rn_loadBlk ag_24 sz_24 (A1.at 3 rfl rfl) BL1_3 rfl rfl) ?_
  refine lx_set (want rfl) sz_24 (A1.at 2 rfl rfl) (t_agg rfl) rfl rfl rfl BL1_2 (Nat.le_of_ble_eq_true rfl) ?_
  intro w6 Es4 Bs4
  have F10 := F5.set Es4 (by omega)
  have hzs4 := Es4.size
  refine lx_nil ?_
  refine wk_ret ?_
  refine retR1 Tryz.results20 (.cell (A1.at 2 rfl rfl) (run_loadVar_blk ag_24 sz_24 Bs4 rfl rfl)) F10 ?_
  exact memT_of (tw1L_1.fr Es4 (fun k hk h => tn1L_1_2 k hk h)) hT (by omega) tg1L_1

end Go.Proofs.YtnhgfmbmfjmonaaGreatDoor

/- What functions compute: refdrawn, work, texts, prim1. -/
import Derived.Test.YtnhgfmbmfjmonaaGreatDoorStreamsFacts
import Derived.Test.YtnhgfmbmfjmonaaGreatDoorStreamsPre
import Derived.Test.YtnhgfmbmfjmonaaGreatDoorStreamsWalk2
import Derived.Test.YtnhgfmbmfjmonaaGreatDoorStreamsWalk3
import Derived.Test.YtnhgfmbmfjmonaaGreatDoorStreamsWalk4
import Derived.Test.YtnhgfmbmfjmonaaGreatDoorStreamsWalk5
import Derived.Test.YtnhgfmbmfjmonaaGreatDoorStreamsWalk6
import Derived.Test.YtnhgfmbmfjmonaaGreatDoorStreamsWalk7
set_option maxRecDepth 100000
set_option linter.unusedVariables false
set_option linter.unusedSimpArgs false
namespace Go.Proofs.YtnhgfmbmfjmonaaGreatDoor
open Go Go.RowKit Go.Mix Go.Eng
set_option maxHeartbeats 2000000 in
theorem refdrawn_ct (m : Mem) (s : Option Addr) (c : Nat) (G : Nat → Prop) (hB : Bm m) (hok : okM m = true) (l : List Vl) (sl : Option Addr) (cl : Nat) (H : Nat → Prop) (hll : l.length ≤ 1048576) (hlv : (l.all fun v => isVal v m.length) = true) (w0 : World) (hm : MemS G w0 s m) (hl : VlS H w0 sl l) :
  CT Tryz.prog 78 [.agg #[.slice s m.length c], .slice sl l.length cl] w0 no (fun v w => PicR w0.heap.size w v (drawP (cellsOfM m) l)) := by
 have hl2 := vl_lt hl
 have hm2 := St_lt hm
 have h400 := (okM_iff.1 hok).1
 have F0 := Fr.refl no w0
 refine ct_body Tryz.func78 rfl Tryz.ntmps78 (Nat.le_of_ble_eq_true rfl) ?_
 refine wk_seq ?_
 refine wk_region ?_
 refine lx_new (want rfl) (rn_box (t_agg rfl)) ?_
 intro b1 w1 hb1 Eb1 B1 hlb1
 have F1 := F0.ext Eb1
 have hzb1 := Eb1.size
 refine lx_new (want rfl) (rn_alloc ze_45) ?_
 intro b2 w2 hb2 Eb2 B2 hlb2
 have F2 := F1.ext Eb2
 have hzb2 := Eb2.size
 refine lx_nil ?_
 refine wk_seq ?_
 refine wk_region ?_
 refine lx_new (want rfl) (rn_alloc ze_77) ?_
 intro b3 w3 hb3 Eb3 B3 hlb3
 have F3 := F2.ext Eb3
 have hzb3 := Eb3.size
 obtain ⟨Z5, hMt, hMti⟩ := me_new (lo := w2.heap.size) B3 (by omega)
 have hinc := fun (k : Nat) (hk : zz zn Z5 k) => (Or.inr (hMti k hk) : zz none (fun _ => False) k ∨ w2.heap.size ≤ k)
 have tg2 : ∀ k, zz zn Z5 k → w0.heap.size ≤ k := fun k hk => (hinc k hk).elim ((fun _ h => zz_nil h) k) (fun h => by omega)
 have tn2_1 : ∀ k, zz zn Z5 k → k ≠ b1 := fun k hk => (hinc k hk).elim ((fun _ h => zz_nil h) k) (fun h => by have := (B1).lt; omega)
 have tn2_2 : ∀ k, zz zn Z5 k → k ≠ b2 := fun k hk => (hinc k hk).elim ((fun _ h => zz_nil h) k) (fun h => by have := (B2).lt; omega)
 refine lx_nil ?_
 refine wk_seq ?_
 refine wk_region ?_
 refine lx_value (want rfl) (mv_slice rfl) ?_
 refine lx_call (want rfl) (ent_func cf_121 (argsC (t_slice rfl) (argsC (t_pointer rfl) args0))) (renumber_ct Z5 b3 [] (Nat.zero_le _) l sl cl (fun k => H k ∧ k < w0.heap.size) (fun k hk h => by have := tg2 k h; have := hk.2; omega) hll (vals_nn hlv) w3 hMt (hl2.fr (vl_stab _) F3 (fun _ _ h => h))) ?_
 rintro _ w4 E1 ⟨sV, cV, Z6, rfl, hOV, hgV, hMV, hiV, hdV⟩
 have F4 := F3.new E1 (fun k h => tg2 k h)
 have hz1 := E1.size
 have tg4 : ∀ k, zz zn Z6 k → w0.heap.size ≤ k := fun k hk => (hiV k hk).elim (tg2 k) (fun h => by omega)
 have tn4_1 : ∀ k, zz zn Z6 k → k ≠ b1 := fun k hk => (hiV k hk).elim (tn2_1 k) (fun h => by have := (B1).lt; omega)
 have tn4_2 : ∀ k, zz zn Z6 k → k ≠ b2 := fun k hk => (hiV k hk).elim (tn2_2 k) (fun h => by have := (B2).lt; omega)
 have tt4_1 : ∀ k, zz zn Z6 k → tb none ([] : List (TE Vl)) k → False := fun k hk h2 => (hiV k hk).elim (fun h => (fun _ _ h => tb_nil h) k h h2) (fun h => by have := ((Tab.nil w3 30 36 2 vlC)).lt h2; omega)
 have ge1 : ∀ k, ob sV k → w0.heap.size ≤ k := fun k hk => (by have := hgV k hk; omega)
 have ne1_1 : ∀ k, ob sV k → k ≠ b1 := fun k hk => by have := hgV k hk; have := (B1).lt; omega
 have ne1_2 : ∀ k, ob sV k → k ≠ b2 := fun k hk => by have := hgV k hk; have := (B2).lt; omega
 refine lx_value (want rfl) (rn_build1 (t_slice rfl) (fun w => bd_45_0 _ _ _ w)) ?_
 refine lx_new (want rfl) (rn_alloc ze_45) ?_
 intro b4 w5 hb4 Eb4 B4 hlb4
 have F5 := F4.ext Eb4
 have hzb4 := Eb4.size
 have nb1 : ∀ k, ob sV k → k ≠ b4 := fun k hk => by have := (hOV).lt hk; omega
 have nb2 : ∀ k, zz zn Z6 k → k ≠ b4 := fun k hk => by have := (hMV).lt hk; omega
 refine lx_set (want rfl) sz_45 rfl (t_agg rfl) rfl rfl rfl B4 (Nat.le_of_ble_eq_true rfl) ?_
 intro w6 Es1 Bs1
 have F6 := F5.set Es1 (by omega)
 have hzs1 := Es1.size
 refine lx_nil ?_
 refine wk_seq ?_
 refine wk_seq ?_
 refine wk_region ?_
 refine lx_value (want rfl) (as_int rfl) ?_
 refine lx_nil ?_
 refine wk_block ?_
 refine wk_loopA [7, 11, 12, 13, 14, 15, 16, 17, 18, 19, 20, 21, 22, 23, 24, 25, 26, 27, 28, 29, 30, 31] (fun j => no j ∨ w0.heap.size ≤ j) (fun nM ρ w => ∃ (i : Nat) (O : List Nat) (C : List (List Vl)) (so1_2 : Option Addr) (co1_2 : Nat) (st1_1 : Option Addr) (ct1_1 : Nat) (TT1_1 : List (TE Vl)) (TT1_5 : Nat → Prop), nM = m.length - i ∧ ρ 7 = .int .i64 i ∧ Blk w b1 (cellsOf B1) 24 ∧ Blk w b2 (cellsOf B2) 45 ∧ Blk w b4 [.slice so1_2 l.length co1_2, .slice st1_1 TT1_1.length ct1_1] 45 ∧ OwnS w 36 2 so1_2 (l.length) co1_2 ((renL [] l).flatMap vlC) ∧ (∀ k, ob so1_2 k → w0.heap.size ≤ k) ∧ (∀ k, ob so1_2 k → k ≠ b1) ∧ (∀ k, ob so1_2 k → k ≠ b2) ∧ (∀ k, ob so1_2 k → k ≠ b4) ∧ Tab w 30 36 2 vlC st1_1 ct1_1 TT1_1 ∧ (∀ k, tb st1_1 TT1_1 k → w0.heap.size ≤ k) ∧ (∀ k, tb st1_1 TT1_1 k → k ≠ b1) ∧ (∀ k, tb st1_1 TT1_1 k → k ≠ b2) ∧ (∀ k, tb st1_1 TT1_1 k → k ≠ b4) ∧ (∀ k, tb st1_1 TT1_1 k → ob so1_2 k → False) ∧ MetO TT1_5 w b3 O ∧ (∀ k, zz zn TT1_5 k → w0.heap.size ≤ k) ∧ (∀ k, zz zn TT1_5 k → k ≠ b1) ∧ (∀ k, zz zn TT1_5 k → k ≠ b2) ∧ (∀ k, zz zn TT1_5 k → k ≠ b4) ∧ (∀ k, zz zn TT1_5 k → ob so1_2 k → False) ∧ (∀ k, tb st1_1 TT1_1 k → zz zn TT1_5 k → False) ∧ (i ≤ O.length) ∧ (MetOk m.length O) ∧ (TT1_1.map (·.2.2) = C) ∧ (C.length = i) ∧ (C ++ drawC (cellsOfM m) (m.length + 1 - i) i O = drawC (cellsOfM m) (m.length + 1) 0 (metL [] l))) _ ⟨0, (metL [] l), [], sV, cV, none, 0, ([] : List (TE Vl)), Z6, rfl, rfl, (((((B1.ext Eb2).ext Eb3).fr E1 (fun h => tn2_1 _ h rfl)).ext Eb4).ne Es1 (by omega)), ((((B2.ext Eb3).fr E1 (fun h => tn2_2 _ h rfl)).ext Eb4).ne Es1 (by omega)), (by first | exact Bs1 | (rw [List.length_append]; exact Bs1)), ((hOV.ext Eb4).ne Es1 (fun h => nb1 _ h rfl)), ge1, ne1_1, ne1_2, nb1, (Tab.nil w6 30 36 2 vlC), (fun _ h => tb_nil h), (fun _ h => tb_nil h), (fun _ h => tb_nil h), (fun _ h => tb_nil h), (fun _ h _ => tb_nil h), ((hMV.ext Eb4).fr Es1 (fun k hk h => nb2 k hk h)), tg4, tn4_1, tn4_2, nb2, (fun k h1 h2 => hdV k h2 h1), (fun k h1 h2 => tt4_1 k h2 h1), Nat.zero_le _, ((metOk_nil _).on (vals_refs hlv)), rfl, rfl, rfl⟩ ?_
 rintro n1 ρ1 w7 A1 EL1 ⟨i, O, C, so1_2, co1_2, st1_1, ct1_1, TT1_1, TT1_5, rfl, hs1_7, BL1_1, BL1_2, BL1_4, ow1L_2, ge1L_2, ne1L_2_1, ne1L_2_2, ne1L_2_4, tw1L_1, tg1L_1, tn1L_1_1, tn1L_1_2, tn1L_1_4, ts1L_1_2, tw1L_5, tg1L_5, tn1L_5_1, tn1L_5_2, tn1L_5_4, ts1L_5_2, tt1L_1_5, hi, hO, hT1, hCi, hdr⟩
 have F7 := F6.wide EL1
 have hzL1 := EL1.size
 refine wk_seq ?_
 refine wk_seq ?_
 refine wk_region ?_
 refine lx_value (want rfl) (mv_int hs1_7) ?_
 obtain ⟨sR, cR, hBR, hOR⟩ := MetO.parts tw1L_5
 refine lx_value (want rfl) (rn_load1 ag_77 (A1.at 5 rfl rfl) (hBR.cell 0 rfl)) ?_
 refine lx_value (want rfl) (rn_len Tryz.underlying77 rfl) ?_
 refine lx_value (want rfl) (rn_lss rfl rfl) ?_
 refine lx_dec (fun hlt => ?_) (fun hlt => ?_)
 ·
  obtain ⟨x, hx⟩ := getx hlt
  have hxl := hO.lt x (List.mem_of_getElem? hx)
  obtain ⟨y, hy⟩ : ∃ y, m[x]? = some y := ⟨_, List.getElem?_eq_getElem hxl⟩
  have hyv := okM_vals hok hy
  have hy100 := (hB.get hy).1
  obtain ⟨bx, ox, rfl, hGx, sc, cc, sw, cw, hcx, hcy, hcv, hcr⟩ := hm2 x y hy
  obtain ⟨bR, oR, hsR⟩ := own_some hOR (show 0 < O.length by omega)
  subst hsR
  have hOl := hO.len
  have hTTl := congrArg List.length hT1
  rw [List.length_map] at hTTl
  refine lx_nil ?_
  refine wk_cond_t rfl ?_
  refine wk_skip ?_
  refine wk_seq ?_
  refine wk_block ?_
  refine wk_mixW 13 (fun j => match j with | 11 => (fun kq => zz zn TT1_5 kq) | _ => no) (fun j (w w' : World) => match j with | _ => True) (fun i => match i with | 4 => no | 5 => no | 6 => no | 7 => no | 8 => no | 9 => no | 10 => no | 11 => no | _ => (fun kq => zz zn TT1_5 kq)) (fun kq => zz zn TT1_5 kq) (fun kS => match kS with | 11 => .any 28 (fun I v w => ∃ (s : Option Addr) (c : Nat) (Z2 : Nat → Prop), v = .slice s (renL O y.1).length c ∧ OwnS w 36 2 s (renL O y.1).length c ((renL O y.1).flatMap vlC) ∧ (∀ k, ob s k → w7.heap.size ≤ k) ∧ MetO Z2 w b3 (metL O y.1) ∧ (∀ k, Z2 k → TT1_5 k ∨ w7.heap.size ≤ k) ∧ ∀ k, ob s k → ¬ Z2 k) | 12 => .any 29 (fun I v w => ∃ (b : Nat) (s : Option Addr) (c : Nat) (Z2 : Nat → Prop), v = .slice (some ⟨b, 0, none⟩) 1 1 ∧ Blk w b [.slice s (renL O y.1).length c] 30 ∧ OwnS w 36 2 s (renL O y.1).length c ((renL O y.1).flatMap vlC) ∧ (∀ k, ob s k → w7.heap.size ≤ k) ∧ MetO Z2 w b3 (metL O y.1) ∧ (∀ k, Z2 k → TT1_5 k ∨ w7.heap.size ≤ k) ∧ ∀ k, ob s k → ¬ Z2 k) | _ => .none) (by kernel_rfl) (by kernel_rfl) ⟨by intro i e G o hk ho; (try dsimp only at hk); split at hk <;> first | (cases hk; done) | (injection hk with hk1 hk2; subst hk1; first | exact .inl ((congrArg (fun q => Option.bind q Oper.dst) ho).symm.trans (by rfl)) | (refine .inr fun j oj hoj => ?_; obtain ⟨q1, q2⟩ := ghost_ok (by kernel_rfl) j oj hoj; exact ⟨q1, q2, fun G' hj h => by (try dsimp only at h); split at h <;> first | (cases h; done) | (exact absurd rfl hj) | (injection h with h1 _; first | (cases h1; done) | (exact absurd h1 (by decide)))⟩))⟩ (by intro i j hij hw k hk; (try dsimp only at hk); split at hk <;> (try exact hk.elim) <;> (try dsimp only) <;> split <;> first | exact hk | exact .inl hk | exact .inr hk | exact absurd rfl hij | exact absurd (hw.symm.trans (by kernel_rfl)) Bool.false_ne_true) (by intro j k hk; (try dsimp only at hk); split at hk <;> first | exact hk.elim | exact hk | exact .inl hk | exact .inr hk) (by intro kS e G hk j hkj hw I v w w' hR hX hG; (try dsimp only at hk); split at hk <;> first | (cases hk; done) | (injection hk with hk1 hk2; subst hk1; subst hk2; (try dsimp only at hR hX hG); split at hR <;> first | exact absurd rfl hkj | (obtain ⟨s, c, Z2, h1, h2, h3, h4, h5, h6⟩ := hG; exact ⟨s, c, Z2, h1, h2.ext hR, h3, h4.ext hR, h5, h6⟩) | (obtain ⟨b, s, c, Z2, h1, hb, h2, h3, h4, h5, h6⟩ := hG; exact ⟨b, s, c, Z2, h1, hb.ext hR, h2.ext hR, h3, h4.ext hR, h5, h6⟩) | exact absurd (hw.symm.trans (by kernel_rfl)) Bool.false_ne_true)) ?_
  simp only [List.take_succ_cons, List.take_zero, List.take_nil, List.drop_succ_cons, List.drop_zero, List.drop_nil]
  refine mw_calm rfl (want rfl) (fun u1 eu1 fu1 => rn_fieldAddr fa_45_1 (A1.at 6 rfl rfl)) ?_
  refine mw_calm rfl (want rfl) (fun u2 eu2 fu2 => rn_load1Blk ag_43 rfl (BL1_4.fr (show Fr (fun kq => zz zn TT1_5 kq) _ _ from mG eu2) (fun h => (fun h => tn1L_5_4 _ h rfl) h)) rfl) ?_
  refine mw_calm rfl (want rfl) (fun u3 eu3 fu3 => rn_fieldAddr fa_24_0 (A1.at 2 rfl rfl)) ?_
  refine mw_calm rfl (want rfl) (fun u4 eu4 fu4 => rn_load1Blk ag_22 rfl (BL1_1.fr (show Fr (fun kq => zz zn TT1_5 kq) _ _ from mG eu4) (fun h => (fun h => tn1L_5_1 _ h rfl) h)) rfl) ?_
  refine mw_calm rfl (want rfl) (fun u5 eu5 fu5 => rn_load1 ag_77 (A1.at 5 rfl rfl) (((ext_drawn _).trans' (show Fr no _ _ from eu5)).cell (fun h => h) (hBR.cell 0 rfl))) ?_
  refine mw_calm rfl (want rfl) (fun u6 eu6 fu6 => mv_int hs1_7) ?_
  refine mw_calm rfl (want rfl) (fun u7 eu7 fu7 => rn_index i Tryz.underlying77 sz_3 rfl rfl rfl (by omega)) ?_
  refine mw_calm rfl (want rfl) (fun u8 eu8 fu8 => rn_load1 ag_3 rfl (((ext_drawn _).trans' (show Fr no _ _ from eu8)).cell (fun h => h) (nat_cell hOR hx))) ?_
  refine mw_calm rfl (want rfl) (fun u9 eu9 fu9 => rn_index x Tryz.underlying22 sz_65 rfl rfl rfl hxl) ?_
  refine mw_calm rfl (want rfl) (fun u10 eu10 fu10 => rn_fieldAddr fa_65_0 rfl) ?_
  refine mw_calm rfl (want rfl) (fun u11 eu11 fu11 => rn_load1 ag_30 rfl ((F7.ext ((ext_drawn _).trans' (show Fr no _ _ from eu11))).cell (fun h => h) hcx)) ?_
  refine mw_any rfl rfl (want rfl) (fun u12 eu12 fu12 => do_call (ent_func cf_121 (argsC (t_slice rfl) (argsC (t_pointer (A1.at 5 rfl rfl)) args0))) (renumber_ct TT1_5 b3 O (by omega) y.1 sc cc (fun k => G k ∧ k < w0.heap.size) (fun k hk h => by have := tg1L_5 k h; have := hk.2; omega) hy100 (vals_nn hyv) u12 (tw1L_5.ext ((ext_drawn _).trans' (show Fr no _ _ from eu12))) (hcv.fr (vl_stab _) (F7.ext ((ext_drawn _).trans' (show Fr no _ _ from eu12))) (fun _ _ h => h))) (fun v w' E h => ⟨⟨E, trivial⟩, (by obtain ⟨s, c, Z2, h1, h2, h3, h4, h5, h6⟩ := h; rw [← renL_len y.1 O] at h1 h2; exact ⟨s, c, Z2, h1, h2, fun k hk => Nat.le_trans ((ext_drawn _).trans' (show Fr no _ _ from eu12)).size (h3 k hk), h4, fun k hk => (h5 k hk).elim .inl (fun h => .inr (Nat.le_trans ((ext_drawn _).trans' (show Fr no _ _ from eu12)).size h)), h6⟩)⟩)) (fun I28 v28 => ?_)
  refine mw_any rfl rfl (want rfl) (fun u13 eu13 fu13 => by obtain ⟨s, c, Z2, rfl, h2, h3, h4, h5, h6⟩ := fu13 28 _ rfl (show (28 : Nat) ∈ _ from by decide); exact (do_newS2 (rn_bslice (xs := [.tmp 28]) Tryz.underlying43 sz_30 ze_30 rfl (argsC (t_slice rfl) args0) (CL.cons rfl rfl CL.nil) rfl (Nat.le_of_ble_eq_true rfl)) (show _ ≤ _ from ((show Fr (fun kq => zz zn TT1_5 kq) _ _ from mG eu13)).size)).mono (fun v w' h => ⟨⟨h.1, trivial⟩, by obtain ⟨b, g1, g2, _, g4⟩ := h.2; exact ⟨b, s, c, Z2, g1, g4, h2.ext h.1, h3, h4.ext h.1, h5, h6⟩⟩)) (fun I29 v29 => ?_)
  refine mw_nil (fun w8 E2' H1 => ?_)
  have E2 := mG E2'
  have F8 := F7.new E2 (fun kq => (fun h => (tg1L_5 _) h))
  have hz2 := E2.size
  obtain ⟨bS, sN, cN, Z7, rfl, hBS, hON, hgN, hMN, hiN, hdN⟩ := (H1 29 _ rfl)
  have tg5 : ∀ k, zz zn Z7 k → w0.heap.size ≤ k := fun k hk => (hiN k hk).elim (tg1L_5 k) (fun h => by omega)
  have tn5_1 : ∀ k, zz zn Z7 k → k ≠ b1 := fun k hk => (hiN k hk).elim (tn1L_5_1 k) (fun h => by have := (BL1_1).lt; omega)
  have tn5_2 : ∀ k, zz zn Z7 k → k ≠ b2 := fun k hk => (hiN k hk).elim (tn1L_5_2 k) (fun h => by have := (BL1_2).lt; omega)
  have tn5_4 : ∀ k, zz zn Z7 k → k ≠ b4 := fun k hk => (hiN k hk).elim (tn1L_5_4 k) (fun h => by have := (BL1_4).lt; omega)
  have ts5_2 : ∀ k, zz zn Z7 k → ob so1_2 k → False := fun k hk h2 => (hiN k hk).elim (fun h => ts1L_5_2 k h h2) (fun h => by have := (ow1L_2).lt h2; omega)
  have tt5_1 : ∀ k, zz zn Z7 k → tb st1_1 TT1_1 k → False := fun k hk h2 => (hiN k hk).elim (fun h => (fun k h1 h2 => tt1L_1_5 k h2 h1) k h h2) (fun h => by have := (tw1L_1).lt h2; omega)
  have ge2 : ∀ k, ob sN k → w0.heap.size ≤ k := fun k hk => (by have := hgN k hk; omega)
  have ne2_1 : ∀ k, ob sN k → k ≠ b1 := fun k hk => by have := hgN k hk; have := (BL1_1).lt; omega
  have ne2_2 : ∀ k, ob sN k → k ≠ b2 := fun k hk => by have := hgN k hk; have := (BL1_2).lt; omega
  have ne2_4 : ∀ k, ob sN k → k ≠ b4 := fun k hk => by have := hgN k hk; have := (BL1_4).lt; omega
  have sp2_2 : ∀ k, ob sN k → ob so1_2 k → False := fun k hk h2 => by have := hgN k hk; have := (ow1L_2).lt h2; omega
  have st2_1 : ∀ k, tb st1_1 TT1_1 k → ob sN k → False := fun k hk h2 => by have := (tw1L_1).lt hk; have := hgN k h2; omega
  have hTo3 := (tw1L_1.fr E2 (fun k h1 => (fun h => (fun h => (fun k h1 h2 => tt1L_1_5 k h2 h1) _ h h1) h)))
  have hOo3 := hON
  refine lx_append 24 (want rfl) Tryz.underlying43 ti_30 (by decide) rfl (by decide) rfl rfl hTo3.out ((Src.blk hBS rfl rfl)) (by omega) ?_
  intro sq3 cq3 w9 AP3
  have EA3 := AP3.fr
  have F9 := F8.new EA3 (fun k h => tg1L_1 k (.inl h))
  have hzA3 := EA3.size
  obtain ⟨tw3, ti3⟩ := Tab.snoc (e := (sN, cN, (renL O y.1))) hTo3 hOo3 (fun k hk h => st2_1 k h hk) AP3
  have tg3 : ∀ k, tb sq3 (TT1_1 ++ [(sN, cN, (renL O y.1))]) k → w0.heap.size ≤ k := fun k hk => (ti3 k hk).elim (fun h => tg1L_1 k h) (fun h => h.elim (fun h => ge2 k h) (fun h => (by omega)))
  have tn3_1 : ∀ k, tb sq3 (TT1_1 ++ [(sN, cN, (renL O y.1))]) k → k ≠ b1 := fun k hk => (ti3 k hk).elim (fun h => tn1L_1_1 k h) (fun h => h.elim (fun h => ne2_1 k h) (fun h => by have := ((BL1_1.fr E2 (fun h => (fun h => tn1L_5_1 _ h rfl) h))).lt; omega))
  have tn3_2 : ∀ k, tb sq3 (TT1_1 ++ [(sN, cN, (renL O y.1))]) k → k ≠ b2 := fun k hk => (ti3 k hk).elim (fun h => tn1L_1_2 k h) (fun h => h.elim (fun h => ne2_2 k h) (fun h => by have := ((BL1_2.fr E2 (fun h => (fun h => tn1L_5_2 _ h rfl) h))).lt; omega))
  have tn3_4 : ∀ k, tb sq3 (TT1_1 ++ [(sN, cN, (renL O y.1))]) k → k ≠ b4 := fun k hk => (ti3 k hk).elim (fun h => tn1L_1_4 k h) (fun h => h.elim (fun h => ne2_4 k h) (fun h => by have := ((BL1_4.fr E2 (fun h => (fun h => tn1L_5_4 _ h rfl) h))).lt; omega))
  have ts3_2 : ∀ k, tb sq3 (TT1_1 ++ [(sN, cN, (renL O y.1))]) k → ob so1_2 k → False := fun k hk h2 => (ti3 k hk).elim (fun h => ts1L_1_2 k h h2) (fun h => h.elim (fun h => sp2_2 k h h2) (fun h => by have := ((ow1L_2.fr E2 (fun k h1 => (fun h => (fun h => ts1L_5_2 _ h h1) h)))).lt h2; omega))
  have tt3_5 : ∀ k, tb sq3 (TT1_1 ++ [(sN, cN, (renL O y.1))]) k → zz zn Z7 k → False := fun k hk h2 => (ti3 k hk).elim (fun h => (fun k h1 h2 => tt5_1 k h2 h1) k h h2) (fun h => h.elim (fun h => (fun k h1 h2 => hdN k h2 h1) k h2 h) (fun h => by have := (hMN).lt h2; omega))
  refine lx_value (want rfl) (rn_fieldAddr fa_45_1 (A1.at 6 rfl rfl)) ?_
  refine lx_set (want rfl) sz_43 rfl (t_slice rfl) rfl rfl rfl ((BL1_4.fr E2 (fun h => (fun h => tn1L_5_4 _ h rfl) h)).fr EA3 (fun h => tn1L_1_4 _ (.inl h) rfl)) (Nat.le_of_ble_eq_true rfl) ?_
  intro w10 Es2 Bs2
  have F10 := F9.set Es2 (by omega)
  have hzs2 := Es2.size
  refine lx_nil ?_
  refine wk_region ?_
  refine lx_value (want rfl) (mv_int hs1_7) ?_
  refine lx_value (want rfl) (rn_add rfl rfl (by omega)) ?_
  refine lx_value (want rfl) (as_int rfl) ?_
  refine lx_nil ?_
  exact ⟨rfl, (((((((((((((((((((((((A1.up rfl _).up rfl _).up rfl _).up rfl _).up rfl _).up rfl _).up rfl _).up rfl _).up rfl _).up rfl _).up rfl _).up rfl _).up rfl _).up rfl _).up rfl _).up rfl _).up rfl _).up rfl _).up rfl _).none _).up rfl _).up rfl _).up rfl _), Fr.between F6 F10 (by omega), _, (by omega), i + 1, (metL O y.1), (C ++ [renL O y.1]), so1_2, co1_2, sq3, cq3, (TT1_1 ++ [(sN, cN, (renL O y.1))]), Z7, rfl, rfl, (((BL1_1.fr E2 (fun h => (fun h => tn1L_5_1 _ h rfl) h)).fr EA3 (fun h => tn1L_1_1 _ (.inl h) rfl)).ne Es2 (by omega)), (((BL1_2.fr E2 (fun h => (fun h => tn1L_5_2 _ h rfl) h)).fr EA3 (fun h => tn1L_1_2 _ (.inl h) rfl)).ne Es2 (by omega)), (by first | exact Bs2 | (rw [List.length_append]; exact Bs2)), (((ow1L_2.fr E2 (fun k h1 => (fun h => (fun h => ts1L_5_2 _ h h1) h))).fr EA3 (fun k h1 h => ts1L_1_2 k (.inl h) h1)).ne Es2 (fun h => ne1L_2_4 _ h rfl)), ge1L_2, ne1L_2_1, ne1L_2_2, ne1L_2_4, (tw3.fr Es2 (fun k hk h => tn3_4 k hk h)), tg3, tn3_1, tn3_2, tn3_4, ts3_2, ((hMN.fr EA3 (fun k h1 h => (fun k h1 h2 => tt5_1 k h2 h1) k (.inl h) h1)).fr Es2 (fun k hk h => tn5_4 k hk h)), tg5, tn5_1, tn5_2, tn5_4, ts5_2, tt3_5, (by obtain ⟨xx, hxx⟩ := metL_app y.1 O; rw [hxx, List.length_append]; omega), (hO.on (vals_refs hyv)), (by rw [List.map_append, hT1]; rfl), (by rw [List.length_append, hCi]; rfl), (draw_on hdr hx hy (by omega))⟩
 ·
  refine lx_nil ?_
  refine wk_cond_f rfl ?_
  refine wk_exit ?_
  refine wk_seq ?_
  refine wk_region ?_
  refine lx_value (want rfl) (rn_loadBlk ag_45 sz_45 (A1.at 6 rfl rfl) BL1_4 rfl rfl) ?_
  refine lx_set (want rfl) sz_45 (A1.at 4 rfl rfl) (t_agg rfl) rfl rfl rfl BL1_2 (Nat.le_of_ble_eq_true rfl) ?_
  intro w8 Es3 Bs3
  have F11 := F7.set Es3 (by omega)
  have hzs3 := Es3.size
  refine lx_nil ?_
  refine wk_ret ?_
  refine retR1 Tryz.results78 (.cell (A1.at 4 rfl rfl) (run_loadVar_blk ag_45 sz_45 Bs3 rfl rfl)) F11 ?_
  have hPR := picR_draw (by rw [renL_len]; exact (ow1L_2.ne Es3 (fun h => ne1L_2_2 _ h rfl))) ge1L_2 (tw1L_1.fr Es3 (fun k hk h => tn1L_1_2 k hk h)) hT1 hdr hlt tg1L_1; rw [renL_len] at hPR; exact hPR

theorem work_ct (k : Nat) (bK : Nat) (fid : FuncId) (l : List Vl) (s : Option Addr) (c : Nat) (F : Nat → Prop) (hb : l.length ≤ 1048576) (hl0 : 0 < l.length) (hav : l.all isValA = true) (hcf : ∀ args w, (callFunc fid args).run Tryz.prog w = .ok (.enter fid args) w) (hfn : ∀ (a b : Int) w, (-1000000000 ≤ a ∧ a ≤ 1000000000) → (-1000000000 ≤ b ∧ b ≤ 1000000000) → CT Tryz.prog fid [.int .i64 a, .int .i64 b] w no (fun v _ => v = vlV (workV k a b))) (w0 : World) (hK : Blk w0 bK ((kindC k).map (Value.int .u8)) 5) (hl : VlS F w0 s l) :
  CT Tryz.prog 84 [.agg #[.int .i64 (arity k : Nat), .slice (some ⟨bK, 0, none⟩) (kindC k).length (kindC k).length, .func (.func fid) #[] #[]], .slice s l.length c] w0 no (fun v _ => v = vlV (primV k l)) := by
 have F0 := Fr.refl no w0
 refine ct_body Tryz.func84 rfl Tryz.ntmps84 (Nat.le_of_ble_eq_true rfl) ?_
 refine wk_seq ?_
 refine wk_region ?_
 refine lx_new (want rfl) (rn_box (t_agg rfl)) ?_
 intro b1 w1 hb1 Eb1 B1 hlb1
 have F1 := F0.ext Eb1
 have hzb1 := Eb1.size
 refine lx_new (want rfl) (rn_alloc ze_36) ?_
 intro b2 w2 hb2 Eb2 B2 hlb2
 have F2 := F1.ext Eb2
 have hzb2 := Eb2.size
 refine lx_nil ?_
 refine wk_seq ?_
 refine wk_seq ?_
 refine wk_region ?_
 refine lx_value (want rfl) (mv_slice rfl) ?_
 refine lx_call (want rfl) (ent_func cf_73 (argsC (t_slice rfl) (argsC rfl args0))) (containsv_ct l _ _ _ 99 [] holeB cf_99 w2 (hl.fr (vl_stab _) F2 (fun _ _ h => h)) hb (fun z w hz E => ishole_ct z.1 z.2 w)) ?_
 rintro _ w3 E1 rfl
 have F3 := F2.ext E1
 have hz1 := E1.size
 refine lx_split (fun hh => ?_) (fun hh => ?_)
 ·
  refine lx_nil ?_
  refine wk_cond_t rfl ?_
  refine wk_seq ?_
  refine wk_region ?_
  refine lx_call (want rfl) (ent_func cf_105 args0) (hole_ct w3) ?_
  rintro _ w4 E2 rfl
  have F4 := F3.ext E2
  have hz2 := E2.size
  refine lx_set (want rfl) sz_36 rfl (t_agg rfl) rfl rfl rfl ((B2.ext E1).ext E2) (Nat.le_of_ble_eq_true rfl) ?_
  intro w5 Es1 Bs1
  have F5 := F4.set Es1 (by omega)
  have hzs1 := Es1.size
  refine lx_nil ?_
  refine wk_ret ?_
  refine retR1 Tryz.results84 (.cell rfl (run_loadVar_blk ag_36 sz_36 Bs1 rfl rfl)) F5 ?_
  exact prim_hole hh
 ·
  refine lx_nil ?_
  refine wk_cond_f rfl ?_
  refine wk_skip ?_
  refine wk_seq ?_
  refine wk_seq ?_
  refine wk_region ?_
  refine lx_value (want rfl) (mv_slice rfl) ?_
  refine lx_call (want rfl) (ent_func cf_119 (argsC (t_slice rfl) (argsC rfl args0))) (indexv_ct l _ _ _ 139 [] badB cf_139 w3 (hl.fr (vl_stab _) F3 (fun _ _ h => h)) hb (fun z w hz E => isbad_ct z.1 z.2 w)) ?_
  rintro _ w4 E3 ⟨iz, rfl, hiz⟩
  have F6 := F3.ext E3
  have hz3 := E3.size
  refine lx_value (want rfl) (as_int rfl) ?_
  refine lx_nil ?_
  refine wk_seq ?_
  refine wk_region ?_
  refine lx_value (want rfl) (mv_int rfl) ?_
  refine lx_value (want rfl) (rn_geq rfl rfl) ?_
  refine lx_dec (fun hz => ?_) (fun hz => ?_)
  ·
   obtain ⟨ib, xb, rfl, hxb, hqb, hfb⟩ := idx_at hiz hz
   obtain ⟨bx, ox, rfl, _, hcx⟩ := hl ib xb hxb
   have hibl := (List.getElem?_eq_some_iff.1 hxb).1
   refine lx_nil ?_
   refine wk_cond_t rfl ?_
   refine wk_seq ?_
   refine wk_region ?_
   refine lx_value (want rfl) (mv_slice rfl) ?_
   refine lx_value (want rfl) (mv_int rfl) ?_
   refine lx_value (want rfl) (rn_index ib Tryz.underlying30 sz_36 rfl rfl rfl hibl) ?_
   refine lx_value (want rfl) (rn_load2 ag_36 sz_36 rfl (F6.cell (fun h => h) (hcx 0 _ rfl)) (F6.cell (fun h => h) (hcx 1 _ rfl))) ?_
   refine lx_set (want rfl) sz_36 rfl (t_agg rfl) rfl rfl rfl ((B2.ext E1).ext E3) (Nat.le_of_ble_eq_true rfl) ?_
   intro w5 Es2 Bs2
   have F7 := F6.set Es2 (by omega)
   have hzs2 := Es2.size
   refine lx_nil ?_
   refine wk_ret ?_
   refine retR1 Tryz.results84 (.cell rfl (run_loadVar_blk ag_36 sz_36 Bs2 rfl rfl)) F7 ?_
   exact prim_bad hh hxb hqb hfb
  ·
   have hnb := idx_no hiz hz
   obtain ⟨x, hx⟩ : ∃ x, l[0]? = some x := ⟨_, List.getElem?_eq_getElem hl0⟩
   obtain ⟨y, hy⟩ : ∃ y, l[l.length - 1]? = some y := ⟨_, List.getElem?_eq_getElem (by omega)⟩
   obtain ⟨bx, ox, hsx, _, hcx⟩ := hl 0 x hx
   subst hsx
   have hcy := hl.get hy
   refine lx_nil ?_
   refine wk_cond_f rfl ?_
   refine wk_skip ?_
   refine wk_seq ?_
   refine wk_mix 13 (fun kS => match kS with | 9 => .any (fun I v w => v = .pointer (some ⟨I.1, 0, none⟩) ∧ w4.heap.size ≤ I.1 ∧ I.1 < I.2 ∧ Blk w I.1 [.int .u8 0, .int .i64 0] 36) | 10 => .any (fun I v w => v = .pointer (some ⟨I.1, 0, none⟩) ∧ w4.heap.size ≤ I.1 ∧ I.1 < I.2 ∧ Blk w I.1 [.int .u8 0, .int .i64 0] 36) | 11 => .sto 6 21 (fun J u w => J.1 < J.2 ∧ Blk w J.1 u.cells.toList 36) | 12 => .sto 7 27 (fun J u w => J.1 < J.2 ∧ Blk w J.1 u.cells.toList 36) | _ => .none) (by kernel_rfl) (by kernel_rfl) (by intro kS G hk; (try dsimp only at hk); (split at hk) <;> first | (cases hk; done) | (injection hk with hk; subst hk; exact ⟨by intro j hkj I v w w' hR hG; first | exact hG | (obtain ⟨h1, h2, hI, h3⟩ := hG; exact ⟨h1, h2, hI, h3.ext hR⟩) | (obtain ⟨h1, h2, hI, h3⟩ := hG; exact ⟨h1, h2, hI, h3.ext hR⟩), fun _ I v w w' hR hG => by first | exact hG | (obtain ⟨h1, h2, hI, h3⟩ := hG; exact ⟨h1, h2, hI, h3.fr hR (fun h => h.2 ⟨Nat.le_refl _, hI⟩)⟩) | (obtain ⟨h1, h2, hI, h3⟩ := hG; exact ⟨h1, h2, hI, h3.fr hR (fun h => h.2 ⟨Nat.le_refl _, hI⟩)⟩)⟩)) (by intro kS s y G hk; (try dsimp only at hk); (split at hk) <;> first | (cases hk; done) | (injection hk with hk1 hk2 hk3; subst hk1; subst hk2; subst hk3; exact ⟨by kernel_rfl, by intro j hkj I v w w' hR hG; exact ⟨hG.1, hG.2.ext hR⟩, fun I v w w' hR hG => ⟨hG.1, hG.2.fr hR (fun h => h.2 ⟨Nat.le_refl _, hG.1⟩)⟩⟩)) ?_
   simp only [List.take_succ_cons, List.take_zero, List.take_nil, List.drop_succ_cons, List.drop_zero, List.drop_nil]
   refine mx_calm rfl (want rfl) (fun u1 eu1 fu1 => mv_slice rfl) ?_
   refine mx_calm rfl (want rfl) (fun u2 eu2 fu2 => rn_index 0 Tryz.underlying30 sz_36 rfl rfl rfl hl0) ?_
   refine mx_calm rfl (want rfl) (fun u3 eu3 fu3 => rn_load2 ag_36 sz_36 rfl ((F6.ext ((ext_drawn _).trans' eu3)).cell (fun h => h) (hcx 0 _ rfl)) ((F6.ext ((ext_drawn _).trans' eu3)).cell (fun h => h) (hcx 1 _ rfl))) ?_
   refine mx_calm rfl (want rfl) (fun u4 eu4 fu4 => mv_slice rfl) ?_
   refine mx_calm rfl (want rfl) (fun u5 eu5 fu5 => mv_slice rfl) ?_
   refine mx_calm rfl (want rfl) (fun u6 eu6 fu6 => rn_len Tryz.underlying30 rfl) ?_
   refine mx_calm rfl (want rfl) (fun u7 eu7 fu7 => rn_sub rfl rfl (by omega)) ?_
   refine mx_calm rfl (want rfl) (fun u8 eu8 fu8 => rn_index (l.length - 1) Tryz.underlying30 sz_36 rfl rfl (by omega) (by omega)) ?_
   refine mx_calm rfl (want rfl) (fun u9 eu9 fu9 => rn_load2 ag_36 sz_36 rfl ((F6.ext ((ext_drawn _).trans' eu9)).cell (fun h => h) (hcy 0 _ rfl)) ((F6.ext ((ext_drawn _).trans' eu9)).cell (fun h => h) (hcy 1 _ rfl))) ?_
   refine mx_any rfl rfl (want rfl) (fun u10 eu10 fu10 => (do_new3 (rn_alloc ze_36) (show _ ≤ _ from (((ext_drawn _).trans' eu10)).size)).mono (fun v w' h => ⟨h.1, h.2⟩)) (fun I6 v6 => ?_)
   refine mx_any rfl rfl (want rfl) (fun u11 eu11 fu11 => (do_new3 (rn_alloc ze_36) (show _ ≤ _ from (((ext_drawn _).trans' eu11)).size)).mono (fun v w' h => ⟨h.1, h.2⟩)) (fun I7 v7 => ?_)
   refine mx_sto rfl rfl rfl rfl (want rfl) (fun u12 eu12 fu12 _ => by obtain ⟨rfl, hl6, hi6, hB6⟩ := fu12 6 _ rfl (show (6 : Nat) ∈ _ from by decide); exact (do_sto sz_36 rfl rfl rfl rfl rfl hB6 rfl ⟨Nat.le_refl _, hi6⟩).mono (fun v w' h => ⟨h.1, h.2.1, hi6, h.2.2⟩)) ?_
   refine mx_sto rfl rfl rfl rfl (want rfl) (fun u13 eu13 fu13 _ => by obtain ⟨rfl, hl7, hi7, hB7⟩ := fu13 7 _ rfl (show (7 : Nat) ∈ _ from by decide); exact (do_sto sz_36 rfl rfl rfl rfl rfl hB7 rfl ⟨Nat.le_refl _, hi7⟩).mono (fun v w' h => ⟨h.1, h.2.1, hi7, h.2.2⟩)) ?_
   refine mx_nil (fun w5 E4' H1 HS => ?_)
   have E4 := (ext_drawn _).trans' E4'
   have F8 := F6.ext E4
   have hz4 := E4.size
   have hI7 := (HS.1 7 _ rfl).2
   have hI6 := (HS.1 6 _ rfl).2
   have hX7_6 := HS.2 7 _ 6 _ rfl rfl (show (7 : Nat) ≠ 6 from by decide)
   simp only at hI7
   simp only at hI6
   simp only at hX7_6
   have g7 := H1 7 _ rfl
   obtain ⟨⟨_, hv7, hb7, _, _⟩, hi7, hB7⟩ := g7; subst hv7; have hlb7 := hB7.lt
   have g6 := H1 6 _ rfl
   obtain ⟨⟨_, hv6, hb6, _, _⟩, hi6, hB6⟩ := g6; subst hv6; have hlb6 := hB6.lt
   refine lx_nil ?_
   refine wk_seq ?_
   refine wk_seq ?_
   refine wk_region ?_
   refine lx_value (want rfl) (rn_fieldAddr fa_36_0 rfl) ?_
   refine lx_value (want rfl) (rn_load1Blk ag_5 rfl hB6 rfl) ?_
   refine lx_value (want rfl) (rn_fieldAddr fa_36_0 rfl) ?_
   refine lx_value (want rfl) (rn_load1Blk ag_5 rfl hB7 rfl) ?_
   refine lx_value (want rfl) (rn_neq rfl rfl) ?_
   refine lx_dec (fun hne => ?_) (fun hne => ?_)
   ·
    refine lx_value (want rfl) (mv_bool rfl) ?_
    refine lx_skip (want_if (j := 5) (d := 33) (x := false) (y := true) rfl rfl (by decide) rfl) ?_
    refine lx_skip (want_if (j := 5) (d := 33) (x := false) (y := true) rfl rfl (by decide) rfl) ?_
    refine lx_skip (want_if (j := 5) (d := 33) (x := false) (y := true) rfl rfl (by decide) rfl) ?_
    refine lx_skip (want_if (j := 5) (d := 33) (x := false) (y := true) rfl rfl (by decide) rfl) ?_
    refine lx_skip (want_if (j := 5) (d := 33) (x := false) (y := true) rfl rfl (by decide) rfl) ?_
    refine lx_skip (want_if (j := 5) (d := 33) (x := false) (y := true) rfl rfl (by decide) rfl) ?_
    refine lx_value (want rfl) (pick_t rfl rfl) ?_
    refine lx_nil ?_
    refine wk_cond_t rfl ?_
    refine wk_seq ?_
    refine wk_region ?_
    refine lx_call (want rfl) (ent_func cf_141 (argsC (t_int rfl) args0)) (bad_ct _ w5) ?_
    rintro _ w6 E5 rfl
    have F9 := F8.ext E5
    have hz5 := E5.size
    refine lx_set (want rfl) sz_36 rfl (t_agg rfl) rfl rfl rfl ((((B2.ext E1).ext E3).ext E4).ext E5) (Nat.le_of_ble_eq_true rfl) ?_
    intro w7 Es3 Bs3
    have F10 := F9.set Es3 (by omega)
    have hzs3 := Es3.size
    refine lx_nil ?_
    refine wk_ret ?_
    refine retR1 Tryz.results84 (.cell rfl (run_loadVar_blk ag_36 sz_36 Bs3 rfl rfl)) F10 ?_
    exact wk_no hh hnb hx hy (fun g => hne g.1)
   ·
    refine lx_value (want rfl) (mv_bool rfl) ?_
    refine lx_value (want_if (j := 5) (d := 33) (x := false) (y := false) rfl rfl (by decide) rfl) (rn_fieldAddr fa_126_1 rfl) ?_
    refine lx_value (want_if (j := 5) (d := 33) (x := false) (y := false) rfl rfl (by decide) rfl) (rn_load1Blk ag_123 rfl ((((B1.ext Eb2).ext E1).ext E3).ext E4) rfl) ?_
    refine lx_value (want_if (j := 5) (d := 33) (x := false) (y := false) rfl rfl (by decide) rfl) (rn_fieldAddr fa_36_0 rfl) ?_
    refine lx_value (want_if (j := 5) (d := 33) (x := false) (y := false) rfl rfl (by decide) rfl) (rn_load1Blk ag_5 rfl hB6 rfl) ?_
    refine lx_call (want_if (j := 5) (d := 33) (x := false) (y := false) rfl rfl (by decide) rfl) (ent_func cf_140 (argsC (t_slice rfl) (argsC (t_int rfl) args0))) (containsu_ct (kindC k) _ _ _ x.1 w5 ((u8_sl hK).fr (u8_stab _) F8 (fun _ _ h => h)) (kindC_len k)) ?_
    rintro _ w6 E6 rfl
    have F11 := F8.ext E6
    have hz6 := E6.size
    refine lx_split (fun hkd => ?_) (fun hkd => ?_)
    ·
     rw [kind_has] at hkd
     have hx12 := kindB_12 hkd
     have hxe : x.1 = y.1 := Decidable.not_not.1 hne
     have hbx := isValA_b (List.all_eq_true.1 hav x (List.mem_of_getElem? hx)) hx12
     have hby := isValA_b (List.all_eq_true.1 hav y (List.mem_of_getElem? hy)) (by rw [← hxe]; exact hx12)
     refine lx_value (want_if (j := 5) (d := 33) (x := false) (y := false) rfl rfl (by decide) rfl) (rn_not rfl) ?_
     refine lx_value (want rfl) (pick_f rfl rfl) ?_
     refine lx_nil ?_
     refine wk_cond_f rfl ?_
     refine wk_skip ?_
     refine wk_seq ?_
     refine wk_region ?_
     refine lx_value (want rfl) (rn_fieldAddr fa_126_2 rfl) ?_
     refine lx_value (want rfl) (rn_load1Blk ag_124 rfl (((((B1.ext Eb2).ext E1).ext E3).ext E4).ext E6) rfl) ?_
     refine lx_value (want rfl) (rn_fieldAddr fa_36_1 rfl) ?_
     refine lx_value (want rfl) (rn_load1Blk ag_3 rfl (hB6.ext E6) rfl) ?_
     refine lx_value (want rfl) (rn_fieldAddr fa_36_1 rfl) ?_
     refine lx_value (want rfl) (rn_load1Blk ag_3 rfl (hB7.ext E6) rfl) ?_
     refine lx_call (want rfl) (ent_value hcf rfl (argsC (t_int rfl) (argsC (t_int rfl) args0))) (hfn x.2 y.2 w6 hbx hby) ?_
     rintro _ w7 E7 rfl
     have F12 := F11.ext E7
     have hz7 := E7.size
     refine lx_set (want rfl) sz_36 rfl (t_agg rfl) rfl rfl rfl (((((B2.ext E1).ext E3).ext E4).ext E6).ext E7) (Nat.le_of_ble_eq_true rfl) ?_
     intro w8 Es4 Bs4
     have F13 := F12.set Es4 (by omega)
     have hzs4 := Es4.size
     refine lx_nil ?_
     refine wk_ret ?_
     refine retR1 Tryz.results84 (.cell rfl (run_loadVar_blk ag_36 sz_36 Bs4 rfl rfl)) F13 ?_
     exact wk_yes hh hnb hx hy ⟨hxe, hkd⟩
    ·
     rw [kind_has] at hkd
     refine lx_value (want_if (j := 5) (d := 33) (x := false) (y := false) rfl rfl (by decide) rfl) (rn_not rfl) ?_
     refine lx_value (want rfl) (pick_f rfl rfl) ?_
     refine lx_nil ?_
     refine wk_cond_t rfl ?_
     refine wk_seq ?_
     refine wk_region ?_
     refine lx_call (want rfl) (ent_func cf_141 (argsC (t_int rfl) args0)) (bad_ct _ w6) ?_
     rintro _ w7 E8 rfl
     have F14 := F11.ext E8
     have hz8 := E8.size
     refine lx_set (want rfl) sz_36 rfl (t_agg rfl) rfl rfl rfl (((((B2.ext E1).ext E3).ext E4).ext E6).ext E8) (Nat.le_of_ble_eq_true rfl) ?_
     intro w8 Es5 Bs5
     have F15 := F14.set Es5 (by omega)
     have hzs5 := Es5.size
     refine lx_nil ?_
     refine wk_ret ?_
     refine retR1 Tryz.results84 (.cell rfl (run_loadVar_blk ag_36 sz_36 Bs5 rfl rfl)) F15 ?_
     exact wk_no hh hnb hx hy (fun g => by rw [hkd] at g; exact Bool.false_ne_true g.2)

set_option maxHeartbeats 2000000 in
theorem texts_ct (A : List (List Vl)) (sv : Option Addr) (nv cv : Nat) (sk : Option Addr) (ck : Nat) (G : Nat → Prop) (hA : ∀ l ∈ A, l.length ≤ 1048576 ∧ ∀ v ∈ l, isVal v A.length = true) (d : Nat) (hd12 : d ≤ 12) (l : List Vl) (s : Option Addr) (c : Nat) (F : Nat → Prop) (hlv : ∀ v ∈ l, isVal v A.length = true) (hll : l.length ≤ 1048576) (ht : TextP Tryz.prog A sv nv cv sk ck G d) (w0 : World) (hl : VlS F w0 s l) (hk : VvS G w0 sk A) :
  CT Tryz.prog 98 [.agg #[.slice sv nv cv, .slice sk A.length ck], .slice s l.length c, .int .i64 (d : Nat)] w0 no (fun u _ => StrQ u (QTs A d l)) := by
 have F0 := Fr.refl no w0
 refine ct_body Tryz.func98 rfl Tryz.ntmps98 (Nat.le_of_ble_eq_true rfl) ?_
 refine wk_seq ?_
 refine wk_region ?_
 refine lx_new (want rfl) (rn_box (t_agg rfl)) ?_
 intro b1 w1 hb1 Eb1 B1 hlb1
 have F1 := F0.ext Eb1
 have hzb1 := Eb1.size
 refine lx_value (want rfl) (as_string rfl) ?_
 refine lx_nil ?_
 refine wk_seq ?_
 refine wk_region ?_
 refine lx_value (want rfl) (as_string rfl) ?_
 refine lx_nil ?_
 refine wk_seq ?_
 refine wk_seq ?_
 refine wk_region ?_
 refine lx_value (want rfl) (as_int rfl) ?_
 refine lx_nil ?_
 refine wk_block ?_
 refine wk_loopA [7, 8, 9, 10, 11, 12, 13, 14, 15, 16, 17, 18, 19, 20, 21, 22, 23, 24, 25, 26, 27, 28, 29, 30, 31, 32] (fun j => no j ∨ w0.heap.size ≤ j) (fun nM ρ w => ∃ (i : Nat) (bq : List UInt8), nM = l.length - i ∧ ρ 8 = .int .i64 i ∧ ρ 7 = .string ⟨bq.toArray⟩ ∧ Blk w b1 (cellsOf B1) 45 ∧ (i ≤ l.length) ∧ (Cut bq (joinN (txV A d) l i)) ∧ (bq.length ≤ 2502 + 2600 * (d + 1))) _ ⟨0, [], rfl, rfl, rfl, B1, Nat.zero_le _, Cut.refl _, Nat.zero_le _⟩ ?_
 rintro n1 ρ1 w2 A1 EL1 ⟨i, bq, rfl, hs1_8, hs1_7, BL1_1, hi, hc, hbl⟩
 have F2 := F1.wide EL1
 have hzL1 := EL1.size
 refine wk_seq ?_
 refine wk_seq ?_
 refine wk_region ?_
 refine lx_value (want rfl) (mv_int hs1_8) ?_
 refine lx_value (want rfl) (mv_slice (A1.at 1 rfl rfl)) ?_
 refine lx_value (want rfl) (rn_len Tryz.underlying30 rfl) ?_
 refine lx_value (want rfl) (rn_lss rfl rfl) ?_
 refine lx_dec (fun hlt => ?_) (fun hlt => ?_)
 ·
  obtain ⟨vq, hv⟩ := getx hlt
  obtain ⟨bv, ov, rfl, _, hcv⟩ := hl i vq hv
  refine lx_value (want rfl) (mv_bool rfl) ?_
  refine lx_value (want_if (j := 4) (d := 13) (x := true) (y := true) rfl rfl (by decide) rfl) (mv_string hs1_7) ?_
  refine lx_value (want_if (j := 4) (d := 13) (x := true) (y := true) rfl rfl (by decide) rfl) (rn_lenS Tryz.underlying9 rfl) ?_
  refine lx_value (want_if (j := 4) (d := 13) (x := true) (y := true) rfl rfl (by decide) rfl) (rn_leq rfl rfl) ?_
  refine lx_dec (fun hf => ?_) (fun hf => ?_)
  ·
   have hf9 := tqs_le hf
   refine lx_value (want rfl) (pick_t rfl rfl) ?_
   refine lx_nil ?_
   refine wk_cond_t rfl ?_
   refine wk_skip ?_
   refine wk_seq ?_
   refine wk_block ?_
   refine wk_seq ?_
   refine wk_seq ?_
   refine wk_region ?_
   refine lx_value (want rfl) (mv_int hs1_8) ?_
   refine lx_value (want rfl) (rn_gtr rfl rfl) ?_
   refine lx_dec (fun hp => ?_) (fun hp => ?_)
   ·
    refine lx_nil ?_
    refine wk_cond_t rfl ?_
    refine wk_region ?_
    refine lx_value (want rfl) (mv_string hs1_7) ?_
    refine lx_value (want rfl) (rn_catS (v := ⟨#[44, 32]⟩) rfl rfl (by have h91 : (⟨#[91]⟩ : ByteArray).size = 1 := rfl; have h93 : (⟨#[93]⟩ : ByteArray).size = 1 := rfl; have h44 : (⟨#[44, 32]⟩ : ByteArray).size = 2 := rfl; have := by_size bq; omega)) ?_
    refine lx_value (want rfl) (as_string rfl) ?_
    refine lx_nil ?_
    refine wk_mix 8 (fun kS => match kS with | 7 => .any (fun I v w => StrQ v (QT A d vq)) | _ => .none) (by kernel_rfl) (by kernel_rfl) (by intro kS G hk; (try dsimp only at hk); (split at hk) <;> first | (cases hk; done) | (injection hk with hk; subst hk; exact ⟨by intro j hkj I v w w' hR hG; first | exact hG | (exact hG), fun ⟨_, _, _, _, hs⟩ => by (try dsimp only at hs); split at hs <;> cases hs⟩)) (by intro kS s y G hk; (try dsimp only at hk); split at hk <;> cases hk) ?_
    simp only [List.take_succ_cons, List.take_zero, List.take_nil, List.drop_succ_cons, List.drop_zero, List.drop_nil]
    refine mx_calm rfl (want rfl) (fun u1 eu1 fu1 => mv_string rfl) ?_
    refine mx_calm rfl (want rfl) (fun u2 eu2 fu2 => rn_loadBlk ag_45 sz_45 (A1.at 3 rfl rfl) (BL1_1.ext ((ext_drawn _).trans' eu2)) rfl rfl) ?_
    refine mx_calm rfl (want rfl) (fun u3 eu3 fu3 => mv_slice (A1.at 1 rfl rfl)) ?_
    refine mx_calm rfl (want rfl) (fun u4 eu4 fu4 => mv_int hs1_8) ?_
    refine mx_calm rfl (want rfl) (fun u5 eu5 fu5 => rn_index i Tryz.underlying30 sz_36 rfl rfl rfl (by omega)) ?_
    refine mx_calm rfl (want rfl) (fun u6 eu6 fu6 => rn_load2 ag_36 sz_36 rfl ((F2.ext ((ext_drawn _).trans' eu6)).cell (fun h => h) (hcv 0 _ rfl)) ((F2.ext ((ext_drawn _).trans' eu6)).cell (fun h => h) (hcv 1 _ rfl))) ?_
    refine mx_calm rfl (want rfl) (fun u7 eu7 fu7 => mv_int (A1.at 2 rfl rfl)) ?_
    refine mx_any rfl rfl (want rfl) (fun u8 eu8 fu8 => do_call (ent_func cf_146 (argsC (t_agg rfl) (argsC (t_agg rfl) (argsC (t_int rfl) args0)))) (ht vq u8 (hlv vq (List.mem_of_getElem? hv)) (hk.fr (vv_stab _) (F2.ext ((ext_drawn _).trans' eu8)) (fun _ _ h => h))) (fun v w' E h => ⟨E, h⟩)) (fun I31 v31 => ?_)
    refine mx_nil (fun w3 E1' H1 HS => ?_)
    have E1 := (ext_drawn _).trans' E1'
    have F3 := F2.ext E1
    have hz1 := E1.size
    have hI31 := (HS.1 31 _ rfl).2
    simp only at hI31
    have g31 := H1 31 _ rfl
    obtain ⟨bs2, rfl, hq2⟩ := g31
    refine lx_value (want rfl) (rn_catS rfl rfl (by have h91 : (⟨#[91]⟩ : ByteArray).size = 1 := rfl; have h93 : (⟨#[93]⟩ : ByteArray).size = 1 := rfl; have h44 : (⟨#[44, 32]⟩ : ByteArray).size = 2 := rfl; have := hq2.2; have := by_size bs2; have := by_size bq; have := sz_cat ⟨bq.toArray⟩ ⟨#[44, 32]⟩; omega)) ?_
    refine lx_value (want rfl) (as_string rfl) ?_
    refine lx_nil ?_
    refine wk_region ?_
    refine lx_value (want rfl) (mv_int hs1_8) ?_
    refine lx_value (want rfl) (rn_add rfl rfl (by omega)) ?_
    refine lx_value (want rfl) (as_int rfl) ?_
    refine lx_nil ?_
    exact ⟨rfl, (((((((((((((((((((((((((((A1.up rfl _).up rfl _).up rfl _).up rfl _).up rfl _).up rfl _).up rfl _).up rfl _).up rfl _).up rfl _).up rfl _).up rfl _).up rfl _).up rfl _).up rfl _).up rfl _).up rfl _).up rfl _).up rfl _).up rfl _).up rfl _).up rfl _).up rfl _).up rfl _).up rfl _).up rfl _).up rfl _), Fr.between F1 F3 (by omega), _, (by omega), i + 1, bq ++ [44, 32] ++ bs2, rfl, rfl, (by rw [← by_app, ← by_app]; exact rfl), (BL1_1.ext E1), by have := (List.getElem?_eq_some_iff.1 hv).1; omega, (tqs_step hv hc [44, 32] (if_pos (by omega)).symm hq2), (by have := hq2.2; simp only [List.length_append, List.length_cons, List.length_nil]; omega)⟩
   ·
    refine lx_nil ?_
    refine wk_cond_f rfl ?_
    refine wk_skip ?_
    refine wk_mix 8 (fun kS => match kS with | 7 => .any (fun I v w => StrQ v (QT A d vq)) | _ => .none) (by kernel_rfl) (by kernel_rfl) (by intro kS G hk; (try dsimp only at hk); (split at hk) <;> first | (cases hk; done) | (injection hk with hk; subst hk; exact ⟨by intro j hkj I v w w' hR hG; first | exact hG | (exact hG), fun ⟨_, _, _, _, hs⟩ => by (try dsimp only at hs); split at hs <;> cases hs⟩)) (by intro kS s y G hk; (try dsimp only at hk); split at hk <;> cases hk) ?_
    simp only [List.take_succ_cons, List.take_zero, List.take_nil, List.drop_succ_cons, List.drop_zero, List.drop_nil]
    refine mx_calm rfl (want rfl) (fun u9 eu9 fu9 => mv_string hs1_7) ?_
    refine mx_calm rfl (want rfl) (fun u10 eu10 fu10 => rn_loadBlk ag_45 sz_45 (A1.at 3 rfl rfl) (BL1_1.ext ((ext_drawn _).trans' eu10)) rfl rfl) ?_
    refine mx_calm rfl (want rfl) (fun u11 eu11 fu11 => mv_slice (A1.at 1 rfl rfl)) ?_
    refine mx_calm rfl (want rfl) (fun u12 eu12 fu12 => mv_int hs1_8) ?_
    refine mx_calm rfl (want rfl) (fun u13 eu13 fu13 => rn_index i Tryz.underlying30 sz_36 rfl rfl rfl (by omega)) ?_
    refine mx_calm rfl (want rfl) (fun u14 eu14 fu14 => rn_load2 ag_36 sz_36 rfl ((F2.ext ((ext_drawn _).trans' eu14)).cell (fun h => h) (hcv 0 _ rfl)) ((F2.ext ((ext_drawn _).trans' eu14)).cell (fun h => h) (hcv 1 _ rfl))) ?_
    refine mx_calm rfl (want rfl) (fun u15 eu15 fu15 => mv_int (A1.at 2 rfl rfl)) ?_
    refine mx_any rfl rfl (want rfl) (fun u16 eu16 fu16 => do_call (ent_func cf_146 (argsC (t_agg rfl) (argsC (t_agg rfl) (argsC (t_int rfl) args0)))) (ht vq u16 (hlv vq (List.mem_of_getElem? hv)) (hk.fr (vv_stab _) (F2.ext ((ext_drawn _).trans' eu16)) (fun _ _ h => h))) (fun v w' E h => ⟨E, h⟩)) (fun I31 v31 => ?_)
    refine mx_nil (fun w3 E2' H2 HS => ?_)
    have E2 := (ext_drawn _).trans' E2'
    have F4 := F2.ext E2
    have hz2 := E2.size
    have hI31 := (HS.1 31 _ rfl).2
    simp only at hI31
    have g31 := H2 31 _ rfl
    obtain ⟨bs2, rfl, hq2⟩ := g31
    refine lx_value (want rfl) (rn_catS rfl rfl (by have h91 : (⟨#[91]⟩ : ByteArray).size = 1 := rfl; have h93 : (⟨#[93]⟩ : ByteArray).size = 1 := rfl; have h44 : (⟨#[44, 32]⟩ : ByteArray).size = 2 := rfl; have := hq2.2; have := by_size bs2; have := by_size bq; have := sz_cat ⟨bq.toArray⟩ ⟨#[44, 32]⟩; omega)) ?_
    refine lx_value (want rfl) (as_string rfl) ?_
    refine lx_nil ?_
    refine wk_region ?_
    refine lx_value (want rfl) (mv_int hs1_8) ?_
    refine lx_value (want rfl) (rn_add rfl rfl (by omega)) ?_
    refine lx_value (want rfl) (as_int rfl) ?_
    refine lx_nil ?_
    exact ⟨rfl, ((((((((((((((((((((((((A1.up rfl _).up rfl _).up rfl _).up rfl _).up rfl _).up rfl _).up rfl _).up rfl _).up rfl _).up rfl _).up rfl _).up rfl _).up rfl _).up rfl _).up rfl _).up rfl _).up rfl _).up rfl _).up rfl _).up rfl _).up rfl _).up rfl _).up rfl _).up rfl _), Fr.between F1 F4 (by omega), _, (by omega), i + 1, bq ++ [] ++ bs2, rfl, rfl, (by rw [List.append_nil, ← by_app]; exact rfl), (BL1_1.ext E2), by have := (List.getElem?_eq_some_iff.1 hv).1; omega, (tqs_step hv hc [] (if_neg (by omega)).symm hq2), (by have := hq2.2; simp only [List.length_append, List.length_nil]; omega)⟩
  ·
   refine lx_value (want rfl) (pick_t rfl rfl) ?_
   refine lx_nil ?_
   refine wk_cond_f rfl ?_
   refine wk_exit ?_
   refine wk_seq ?_
   refine wk_region ?_
   refine lx_value (want rfl) (mv_string hs1_7) ?_
   refine lx_value (want rfl) (as_string rfl) ?_
   refine lx_nil ?_
   refine wk_ret ?_
   refine retR1 Tryz.results98 (.tmp (t_string rfl)) F2 ?_
   first | exact tqs_end hc hbl hi hlt | exact tqs_full hc hbl hi hf
 ·
  refine lx_value (want rfl) (mv_bool rfl) ?_
  refine lx_skip (want_if (j := 4) (d := 13) (x := true) (y := false) rfl rfl (by decide) rfl) ?_
  refine lx_skip (want_if (j := 4) (d := 13) (x := true) (y := false) rfl rfl (by decide) rfl) ?_
  refine lx_skip (want_if (j := 4) (d := 13) (x := true) (y := false) rfl rfl (by decide) rfl) ?_
  refine lx_value (want rfl) (pick_f rfl rfl) ?_
  refine lx_nil ?_
  refine wk_cond_f rfl ?_
  refine wk_exit ?_
  refine wk_seq ?_
  refine wk_region ?_
  refine lx_value (want rfl) (mv_string hs1_7) ?_
  refine lx_value (want rfl) (as_string rfl) ?_
  refine lx_nil ?_
  refine wk_ret ?_
  refine retR1 Tryz.results98 (.tmp (t_string rfl)) F2 ?_
  first | exact tqs_end hc hbl hi hlt | exact tqs_full hc hbl hi hf

theorem textsAll_ct {A : List (List Vl)} {sv : Option Addr} {nv cv : Nat} {sk : Option Addr} {ck : Nat} {G : Nat → Prop} (hA : ∀ l ∈ A, l.length ≤ 1048576 ∧ ∀ v ∈ l, isVal v A.length = true) : ∀ d, d ≤ 12 → TextP Tryz.prog A sv nv cv sk ck G d ∧ TextsP Tryz.prog A sv nv cv sk ck G d := by
 intro d
 induction d with
 | zero =>
  intro hd
  have hv : TextP Tryz.prog A sv nv cv sk ck G 0 := fun v w h1 h2 => text_ct A sv nv cv sk ck G hA 0 hd v h1 (fun dq e => by omega) w h2
  exact ⟨hv, fun l s c F w h1 h2 h3 h4 => texts_ct A sv nv cv sk ck G hA 0 hd l s c F h1 h2 hv w h3 h4⟩
 | succ d ih =>
  intro hd
  have hv : TextP Tryz.prog A sv nv cv sk ck G (d + 1) := fun v w h1 h2 => text_ct A sv nv cv sk ck G hA (d + 1) hd v h1 (fun dq e => (Nat.succ.inj e) ▸ (ih (by omega)).2) w h2
  exact ⟨hv, fun l s c F w h1 h2 h3 h4 => texts_ct A sv nv cv sk ck G hA (d + 1) hd l s c F h1 h2 hv w h3 h4⟩

theorem prim1_ct (z : Vl) (w0 : World) :
  CT Tryz.prog 83 [vlV z] w0 no (fun v _ => v = .bool (!isValA z)) := by
 have F0 := Fr.refl no w0
 refine ct_body Tryz.func83 rfl Tryz.ntmps83 (Nat.le_of_ble_eq_true rfl) ?_
 refine wk_seq ?_
 refine wk_region ?_
 refine lx_new (want rfl) (rn_box (t_agg rfl)) ?_
 intro b1 w1 hb1 Eb1 B1 hlb1
 have F1 := F0.ext Eb1
 have hzb1 := Eb1.size
 refine lx_value (want rfl) (as_bool rfl) ?_
 refine lx_nil ?_
 refine wk_seq ?_
 refine wk_region ?_
 refine lx_value (want rfl) (rn_fieldAddr fa_36_0 rfl) ?_
 refine lx_value (want rfl) (rn_load1Blk ag_5 rfl B1 rfl) ?_
 refine lx_value (want rfl) (rn_neq rfl rfl) ?_
 refine lx_dec (fun h4 => ?_) (fun h4 => ?_)
 ·
  refine lx_value (want rfl) (mv_bool rfl) ?_
  refine lx_value (want_if (j := 3) (d := 6) (x := true) (y := true) rfl rfl (by decide) rfl) (rn_loadBlk ag_36 sz_36 rfl B1 rfl rfl) ?_
  refine lx_call (want_if (j := 3) (d := 6) (x := true) (y := true) rfl rfl (by decide) rfl) (ent_func cf_75 (argsC (t_agg rfl) (argsC (t_int rfl) args0))) (isvalue_ct z.1 z.2 0 (by omega) w1) ?_
  rintro _ w2 E1 rfl
  have F2 := F1.ext E1
  have hz1 := E1.size
  refine lx_split (fun hv => ?_) (fun hv => ?_)
  ·
   refine lx_value (want_if (j := 3) (d := 6) (x := true) (y := true) rfl rfl (by decide) rfl) (rn_not rfl) ?_
   refine lx_value (want rfl) (pick_t rfl rfl) ?_
   refine lx_value (want rfl) (mv_bool rfl) ?_
   refine lx_value (want_if (j := 8) (d := 11) (x := false) (y := false) rfl rfl (by decide) rfl) (rn_fieldAddr fa_36_1 rfl) ?_
   refine lx_value (want_if (j := 8) (d := 11) (x := false) (y := false) rfl rfl (by decide) rfl) (rn_load1Blk ag_3 rfl (B1.ext E1) rfl) ?_
   refine lx_value (want_if (j := 8) (d := 11) (x := false) (y := false) rfl rfl (by decide) rfl) (rn_lss rfl rfl) ?_
   refine lx_dec (fun hn => ?_) (fun hn => ?_)
   ·
    refine lx_value (want_if (j := 8) (d := 11) (x := false) (y := false) rfl rfl (by decide) rfl) (mv_bool rfl) ?_
    refine lx_value (want_if (j := 12) (d := 15) (x := true) (y := true) rfl rfl (by decide) rfl) (rn_fieldAddr fa_36_0 rfl) ?_
    refine lx_value (want_if (j := 12) (d := 15) (x := true) (y := true) rfl rfl (by decide) rfl) (rn_load1Blk ag_5 rfl (B1.ext E1) rfl) ?_
    refine lx_value (want_if (j := 12) (d := 15) (x := true) (y := true) rfl rfl (by decide) rfl) (rn_eql rfl rfl) ?_
    refine lx_value (want_if (j := 8) (d := 11) (x := false) (y := false) rfl rfl (by decide) rfl) (pick_t rfl rfl) ?_
    refine lx_value (want rfl) (pick_f rfl rfl) ?_
    refine lx_value (want rfl) (as_bool rfl) ?_
    refine lx_nil ?_
    refine wk_ret ?_
    refine retR1 Tryz.results83 (.tmp (t_bool rfl)) F2 ?_
    first | exact pv_f h4 hv | exact pv_g h4 hn | exact pv_b h4 hv | exact pv_c h4 hn | exact pv_d h4 hn | exact pv_e h4 hv hn
   ·
    refine lx_value (want_if (j := 8) (d := 11) (x := false) (y := false) rfl rfl (by decide) rfl) (mv_bool rfl) ?_
    refine lx_skip (want_if (j := 12) (d := 15) (x := true) (y := false) rfl rfl (by decide) rfl) ?_
    refine lx_skip (want_if (j := 12) (d := 15) (x := true) (y := false) rfl rfl (by decide) rfl) ?_
    refine lx_skip (want_if (j := 12) (d := 15) (x := true) (y := false) rfl rfl (by decide) rfl) ?_
    refine lx_value (want_if (j := 8) (d := 11) (x := false) (y := false) rfl rfl (by decide) rfl) (pick_f rfl rfl) ?_
    refine lx_value (want rfl) (pick_f rfl rfl) ?_
    refine lx_value (want rfl) (as_bool rfl) ?_
    refine lx_nil ?_
    refine wk_ret ?_
    refine retR1 Tryz.results83 (.tmp (t_bool rfl)) F2 ?_
    first | exact pv_f h4 hv | exact pv_g h4 hn | exact pv_b h4 hv | exact pv_c h4 hn | exact pv_d h4 hn | exact pv_e h4 hv hn
  ·
   refine lx_value (want_if (j := 3) (d := 6) (x := true) (y := true) rfl rfl (by decide) rfl) (rn_not rfl) ?_
   refine lx_value (want rfl) (pick_t rfl rfl) ?_
   refine lx_value (want rfl) (mv_bool rfl) ?_
   refine lx_skip (want_if (j := 8) (d := 11) (x := false) (y := true) rfl rfl (by decide) rfl) ?_
   refine lx_skip (want_if (j := 8) (d := 11) (x := false) (y := true) rfl rfl (by decide) rfl) ?_
   refine lx_skip (want_if (j := 8) (d := 11) (x := false) (y := true) rfl rfl (by decide) rfl) ?_
   refine lx_skip (want_if (j := 8) (d := 11) (x := false) (y := true) rfl rfl (by decide) rfl) ?_
   refine lx_skip (want_un (j := 12) (d := 15) (x := true) rfl rfl (by decide) rfl) ?_
   refine lx_skip (want_un (j := 12) (d := 15) (x := true) rfl rfl (by decide) rfl) ?_
   refine lx_skip (want_un (j := 12) (d := 15) (x := true) rfl rfl (by decide) rfl) ?_
   refine lx_skip (want_if (j := 8) (d := 11) (x := false) (y := true) rfl rfl (by decide) rfl) ?_
   refine lx_value (want rfl) (pick_t rfl rfl) ?_
   refine lx_value (want rfl) (as_bool rfl) ?_
   refine lx_nil ?_
   refine wk_ret ?_
   refine retR1 Tryz.results83 (.tmp (t_bool rfl)) F2 ?_
   first | exact pv_f h4 hv | exact pv_g h4 hn | exact pv_b h4 hv | exact pv_c h4 hn | exact pv_d h4 hn | exact pv_e h4 hv hn
 ·
  refine lx_value (want rfl) (mv_bool rfl) ?_
  refine lx_skip (want_if (j := 3) (d := 6) (x := true) (y := false) rfl rfl (by decide) rfl) ?_
  refine lx_skip (want_if (j := 3) (d := 6) (x := true) (y := false) rfl rfl (by decide) rfl) ?_
  refine lx_skip (want_if (j := 3) (d := 6) (x := true) (y := false) rfl rfl (by decide) rfl) ?_
  refine lx_value (want rfl) (pick_f rfl rfl) ?_
  refine lx_value (want rfl) (mv_bool rfl) ?_
  refine lx_value (want_if (j := 8) (d := 11) (x := false) (y := false) rfl rfl (by decide) rfl) (rn_fieldAddr fa_36_1 rfl) ?_
  refine lx_value (want_if (j := 8) (d := 11) (x := false) (y := false) rfl rfl (by decide) rfl) (rn_load1Blk ag_3 rfl B1 rfl) ?_
  refine lx_value (want_if (j := 8) (d := 11) (x := false) (y := false) rfl rfl (by decide) rfl) (rn_lss rfl rfl) ?_
  refine lx_dec (fun hn => ?_) (fun hn => ?_)
  ·
   refine lx_value (want_if (j := 8) (d := 11) (x := false) (y := false) rfl rfl (by decide) rfl) (mv_bool rfl) ?_
   refine lx_value (want_if (j := 12) (d := 15) (x := true) (y := true) rfl rfl (by decide) rfl) (rn_fieldAddr fa_36_0 rfl) ?_
   refine lx_value (want_if (j := 12) (d := 15) (x := true) (y := true) rfl rfl (by decide) rfl) (rn_load1Blk ag_5 rfl B1 rfl) ?_
   refine lx_value (want_if (j := 12) (d := 15) (x := true) (y := true) rfl rfl (by decide) rfl) (rn_eql rfl rfl) ?_
   refine lx_value (want_if (j := 8) (d := 11) (x := false) (y := false) rfl rfl (by decide) rfl) (pick_t rfl rfl) ?_
   refine lx_value (want rfl) (pick_f rfl rfl) ?_
   refine lx_value (want rfl) (as_bool rfl) ?_
   refine lx_nil ?_
   refine wk_ret ?_
   refine retR1 Tryz.results83 (.tmp (t_bool rfl)) F1 ?_
   first | exact pv_f h4 hv | exact pv_g h4 hn | exact pv_b h4 hv | exact pv_c h4 hn | exact pv_d h4 hn | exact pv_e h4 hv hn
  ·
   refine lx_value (want_if (j := 8) (d := 11) (x := false) (y := false) rfl rfl (by decide) rfl) (mv_bool rfl) ?_
   refine lx_skip (want_if (j := 12) (d := 15) (x := true) (y := false) rfl rfl (by decide) rfl) ?_
   refine lx_skip (want_if (j := 12) (d := 15) (x := true) (y := false) rfl rfl (by decide) rfl) ?_
   refine lx_skip (want_if (j := 12) (d := 15) (x := true) (y := false) rfl rfl (by decide) rfl) ?_
   refine lx_value (want_if (j := 8) (d := 11) (x := false) (y := false) rfl rfl (by decide) rfl) (pick_f rfl rfl) ?_
   refine lx_value (want rfl) (pick_f rfl rfl) ?_
   refine lx_value (want rfl) (as_bool rfl) ?_
   refine lx_nil ?_
   refine wk_ret ?_
   refine retR1 Tryz.results83 (.tmp (t_bool rfl)) F1 ?_
   first | exact pv_f h4 hv | exact pv_g h4 hn | exact pv_b h4 hv | exact pv_c h4 hn | exact pv_d h4 hn | exact pv_e h4 hv hn

end Go.Proofs.YtnhgfmbmfjmonaaGreatDoor

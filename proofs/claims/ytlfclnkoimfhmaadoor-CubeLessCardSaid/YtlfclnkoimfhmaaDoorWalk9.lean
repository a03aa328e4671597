/- What functions of the cube compute: cmoves, put1, goes, comes. -/
import Derived.Test.YtlfclnkoimfhmaaDoorFacts
import Derived.Test.YtlfclnkoimfhmaaDoorPre
import Derived.Test.YtlfclnkoimfhmaaDoorWalk1
import Derived.Test.YtlfclnkoimfhmaaDoorWalk2
import Derived.Test.YtlfclnkoimfhmaaDoorWalk3
import Derived.Test.YtlfclnkoimfhmaaDoorWalk4
import Derived.Test.YtlfclnkoimfhmaaDoorWalk6
set_option linter.unusedVariables false
set_option linter.unusedSimpArgs false
namespace Go.Proofs.YtlfclnkoimfhmaaDoor
open Go Go.RowKit Go.Mix Go.Eng
set_option maxHeartbeats 1000000 in
theorem cmoves_ct (b dim : Nat) (r : Int) (s : Option Addr) (c : Nat) (T : List (TE Pk)) (L : List (List Pk)) (hm : T.map (·.2.2) = L) (hV : Valid dim r L) (w0 : World) (hC : CubeP w0 b dim r s c T) (hT : Tb w0 1) :
    CT Tryd.prog 59 [.pointer (some ⟨b, 0, none⟩)] w0 no (fun v w => MovesP w0 dim r L v w) := by
  have hd := hV.hd
  have h28 := pow2_le dim (Nat.le_refl _) hd
  have hbl := hC.blk.lt
  have hT1 := hT.lt
  have hTn : T.length = L.length := by rw [← hm, List.length_map]
  have hnL := hV.len
  have h32 := prod_le hd
  have F0 := Fr.refl no w0
  refine ct_bodyM Tryd.func59 rfl Tryd.ntmps59 (Nat.le_of_ble_eq_true rfl) ?_
  refine wk_seq ?_
  refine wk_region ?_
  refine lx_new (want rfl) (rn_box (t_pointer rfl)) ?_
  intro b21 w1 hb21 Eb21 B21 hlb21
  have F1 := F0.ext Eb21
  have hzb21 := Eb21.size
  refine lx_new (want rfl) (rn_alloc ze_94) ?_
  intro b22 w2 hb22 Eb22 B22 hlb22
  have F2 := F1.ext Eb22
  have hzb22 := Eb22.size
  refine lx_nil ?_
  refine wk_seq ?_
  refine wk_seq ?_
  refine wk_region ?_
  refine lx_value (want rfl) (rn_load1Blk ag_84 rfl (B21.ext Eb22) rfl) ?_
  refine lx_value (want rfl) (rn_nilCheck rfl) ?_
  refine lx_value (want rfl) (rn_loadBlk ag_76 sz_76 rfl ((hC.blk.ext Eb21).ext Eb22) rfl rfl) ?_
  refine lx_call (want rfl) (ent_func cf_80 (argsC (t_agg rfl) args0)) (spots_ct dim r _ _ _ w2) ?_
  rintro _ w3 E1 ⟨bs, rfl, BS, hbs⟩
  have F3 := F2.ext E1
  have hz1 := E1.size
  have hlbs := (BS).lt
  refine lx_nil ?_
  refine wk_block ?_
  refine wk_abs ?_
  intro ρR1 hR1
  refine wk_range (ps := [9, 10]) ((hR1 8).trans rfl) cf_90 ?_
  intro fR1 db1 l1 w4 RC1 hRC1 hdb1 hl1 hsz1 ER1 HD1 HL1
  have F4 := F3.ext ER1
  have hzR1 := ER1.size
  have hlt1_l := (HL1).lt
  have hlt1_d := (HD1).lt
  refine CT.mono (spots1_ct l1 bs T.length dim r _ _ hd (by omega) (fun (i : Nat) (w : World) => ∃ (so1_1 : Option Addr) (co1_1 : Nat), Fr no w0 w ∧ w4.heap.size ≤ w.heap.size ∧ Blk w b (cellsOf hC.blk) 76 ∧ Tb w 1 ∧ Blk w b21 (cellsOf B21) 84 ∧ Blk w b22 [.slice so1_1 (movesL dim r L i).length co1_1] 94 ∧ Blk w bs (cellsOf BS) 76 ∧ At w l1 (RC1 .ready none) ∧ At w db1 (.deferred (some [])) ∧ OwnS w 82 2 so1_1 ((movesL dim r L i).length) co1_1 ((movesL dim r L i).flatMap mvC) ∧ (∀ k, ob so1_1 k → w0.heap.size ≤ k) ∧ (∀ k, ob so1_1 k → k ≠ b) ∧ (∀ k, ob so1_1 k → k ≠ 1) ∧ (∀ k, ob so1_1 k → k ≠ b21) ∧ (∀ k, ob so1_1 k → k ≠ b22) ∧ (∀ k, ob so1_1 k → k ≠ bs) ∧ (∀ k, ob so1_1 k → k ≠ l1) ∧ (∀ k, ob so1_1 k → k ≠ db1)) (fun _ => False) w4 ⟨none, 0, F4, (by omega), ((((hC.blk.ext Eb21).ext Eb22).ext E1).ext ER1), ((((hT.ext Eb21).ext Eb22).ext E1).ext ER1), (((B21.ext Eb22).ext E1).ext ER1), (by first | exact ((B22.ext E1).ext ER1) | (rw [moves_step_t hab, List.length_append]; exact ((B22.ext E1).ext ER1)) | (rw [moves_step_f hab]; exact ((B22.ext E1).ext ER1))), (BS.ext ER1), HL1, HD1, (((OwnS.nil w2 82 2).ext E1).ext ER1), (fun _ h => ob_none h), (fun _ h => ob_none h), (fun _ h => ob_none h), (fun _ h => ob_none h), (fun _ h => ob_none h), (fun _ h => ob_none h), (fun _ h => ob_none h), (fun _ h => ob_none h)⟩ (by rintro i w ⟨so1_1, co1_1, FW1, hzW1, BL1_1, BL1_800, BL1_21, BL1_22, BL1_40, BL1_901, BL1_902, ow1L_1, ge1L_1, ne1L_1_1, ne1L_1_800, ne1L_1_21, ne1L_1_22, ne1L_1_40, ne1L_1_901, ne1L_1_902⟩; exact BL1_40) (by rintro i w ⟨so1_1, co1_1, FW1, hzW1, BL1_1, BL1_800, BL1_21, BL1_22, BL1_40, BL1_901, BL1_902, ow1L_1, ge1L_1, ne1L_1_1, ne1L_1_800, ne1L_1_21, ne1L_1_22, ne1L_1_40, ne1L_1_901, ne1L_1_902⟩; exact (Fr.between F4 FW1 hzW1).mono (fun _ _ _ => trivial)) (by intro w h; exact h.elim) ?_) (fun _ _ h => h) ?_
  ·
    rintro i w5 w6 hi1 ⟨so1_1, co1_1, FW1, hzW1, BL1_1, BL1_800, BL1_21, BL1_22, BL1_40, BL1_901, BL1_902, ow1L_1, ge1L_1, ne1L_1_1, ne1L_1_800, ne1L_1_21, ne1L_1_22, ne1L_1_40, ne1L_1_901, ne1L_1_902⟩ E1r
    have F5 := FW1.ext E1r
    have hz1r := E1r.size
    refine yd_round hRC1 (BL1_901.ext E1r) rfl ?_
    refine wk_region ?_
    refine lx_new (want rfl) (rn_alloc ze_82) ?_
    intro b23 w7 hb23 Eb23 B23 hlb23
    have F6 := F5.ext Eb23
    have hzb23 := Eb23.size
    have nb1 : ∀ k, ob so1_1 k → k ≠ b23 := fun k hk => by have := (ow1L_1).lt hk; omega
    refine lx_set (want rfl) sz_82 rfl rfl rfl rfl rfl B23 (Nat.le_of_ble_eq_true rfl) ?_
    intro w8 Es1 Bs1
    have F7 := F6.set Es1 (by omega)
    have hzs1 := Es1.size
    refine lx_nil ?_
    refine ⟨rfl, (((BL1_901.ext E1r).ext Eb23).ne Es1 (by omega)), fun w9 E2 HBE2 => ?_⟩
    have F8 := F7.set E2 (by omega)
    have hz2 := E2.size
    obtain ⟨l, hl⟩ : ∃ l, L[i]? = some l := ⟨_, List.getElem?_eq_getElem (by omega)⟩
    obtain ⟨hx0, hx1, hx2, hx3⟩ := hV.at hl
    have hml := moves_len dim r L i
    refine wk_block ?_
    refine wk_seq ?_
    refine wk_region ?_
    refine lx_value (want rfl) (rn_load1Blk ag_84 ((hR1 1).trans rfl) ((((BL1_21.ext E1r).ext Eb23).ne Es1 (by omega)).ne E2 (by omega)) rfl) ?_
    refine lx_value (want rfl) (rn_loadBlk ag_82 sz_82 rfl (Bs1.ne E2 (by omega)) rfl rfl) ?_
    refine lx_call (want rfl) (ent_func cf_61 (argsC (t_pointer rfl) (argsC (t_agg rfl) args0))) (ccan_ct b dim r s c T L hm hV (i / (dim + 1)) (i % (dim + 1)) hx2 hx3 l (by rw [div_mod_n]; exact hl) w9 (hC.ext F8) ((((BL1_800.ext E1r).ext Eb23).ne Es1 (by omega)).ne E2 (by omega))) ?_
    rintro _ w10 E3 rfl
    have F9 := F8.ext E3
    have hz3 := E3.size
    refine lx_value (want rfl) (rn_eql rfl rfl) ?_
    refine lx_dec (fun hce => ?_) (fun hce => ?_)
    ·
      rw [div_mod_n] at hce
      have hab := canE_zero hce
      refine lx_nil ?_
      refine wk_cond_t rfl ?_
      refine wk_region ?_
      refine lx_value (want rfl) (rn_load1Blk ag_94 ((hR1 2).trans rfl) (((((BL1_22.ext E1r).ext Eb23).ne Es1 (by omega)).ne E2 (by omega)).ext E3) rfl) ?_
      refine lx_value (want rfl) (rn_loadBlk ag_82 sz_82 rfl ((Bs1.ne E2 (by omega)).ext E3) rfl rfl) ?_
      refine lx_newS (want rfl) (rn_bslice (xs := [.tmp 16]) Tryd.underlying94 sz_82 ze_82 rfl (argsC (t_agg rfl) args0) (CL.cons rfl rfl CL.nil) rfl (Nat.le_of_ble_eq_true rfl)) ?_
      intro b24 w11 hb24 Eb24 B24 hlb24
      have F10 := F9.ext Eb24
      have hzb24 := Eb24.size
      have nb2 : ∀ k, ob so1_1 k → k ≠ b24 := fun k hk => by have := (ow1L_1).lt hk; omega
      refine lx_append 16 (want rfl) Tryd.underlying94 ti_82 (by decide) rfl (by decide) rfl rfl ((((((ow1L_1.ext E1r).ext Eb23).ne Es1 (fun h => nb1 _ h rfl)).ne E2 (fun h => ne1L_1_901 _ h rfl)).ext E3).ext Eb24) (Src.blk B24 rfl rfl) (by omega) ?_
      intro sq2 cq2 w12 AP2
      have EA2 := AP2.fr
      have ow2 := AP2.own
      have ge2 : ∀ k, ob sq2 k → w0.heap.size ≤ k := fun k hk => (AP2.blk k hk).elim (ge1L_1 k) (fun h => Nat.le_trans F10.size h)
      have ne2_1 : ∀ k, ob sq2 k → k ≠ b := fun k hk => (AP2.blk k hk).elim (ne1L_1_1 k) (fun h => by have := (((((((BL1_1.ext E1r).ext Eb23).ne Es1 (by omega)).ne E2 (by omega)).ext E3).ext Eb24)).lt; omega)
      have ne2_800 : ∀ k, ob sq2 k → k ≠ 1 := fun k hk => (AP2.blk k hk).elim (ne1L_1_800 k) (fun h => by have := (((((((BL1_800.ext E1r).ext Eb23).ne Es1 (by omega)).ne E2 (by omega)).ext E3).ext Eb24)).lt; omega)
      have ne2_21 : ∀ k, ob sq2 k → k ≠ b21 := fun k hk => (AP2.blk k hk).elim (ne1L_1_21 k) (fun h => by have := (((((((BL1_21.ext E1r).ext Eb23).ne Es1 (by omega)).ne E2 (by omega)).ext E3).ext Eb24)).lt; omega)
      have ne2_22 : ∀ k, ob sq2 k → k ≠ b22 := fun k hk => (AP2.blk k hk).elim (ne1L_1_22 k) (fun h => by have := (((((((BL1_22.ext E1r).ext Eb23).ne Es1 (by omega)).ne E2 (by omega)).ext E3).ext Eb24)).lt; omega)
      have ne2_40 : ∀ k, ob sq2 k → k ≠ bs := fun k hk => (AP2.blk k hk).elim (ne1L_1_40 k) (fun h => by have := (((((((BL1_40.ext E1r).ext Eb23).ne Es1 (by omega)).ne E2 (by omega)).ext E3).ext Eb24)).lt; omega)
      have ne2_901 : ∀ k, ob sq2 k → k ≠ l1 := fun k hk => (AP2.blk k hk).elim (ne1L_1_901 k) (fun h => by have := (((HBE2.ext E3).ext Eb24)).lt; omega)
      have ne2_902 : ∀ k, ob sq2 k → k ≠ db1 := fun k hk => (AP2.blk k hk).elim (ne1L_1_902 k) (fun h => by have := (((((((BL1_902.ext E1r).ext Eb23).ne Es1 (by omega)).ne E2 (by omega)).ext E3).ext Eb24)).lt; omega)
      have ne2_23 : ∀ k, ob sq2 k → k ≠ b23 := fun k hk => (AP2.blk k hk).elim (nb1 k) (fun h => by have := ((((Bs1.ne E2 (by omega)).ext E3).ext Eb24)).lt; omega)
      have ne2_24 : ∀ k, ob sq2 k → k ≠ b24 := fun k hk => (AP2.blk k hk).elim (nb2 k) (fun h => by have := (B24).lt; omega)
      have F11 := F10.new EA2 ge1L_1
      have hzA2 := EA2.size
      have BA2_1 := ((((((BL1_1.ext E1r).ext Eb23).ne Es1 (by omega)).ne E2 (by omega)).ext E3).ext Eb24).fr EA2 (fun h => ne1L_1_1 _ h rfl)
      have BA2_800 := ((((((BL1_800.ext E1r).ext Eb23).ne Es1 (by omega)).ne E2 (by omega)).ext E3).ext Eb24).fr EA2 (fun h => ne1L_1_800 _ h rfl)
      have BA2_21 := ((((((BL1_21.ext E1r).ext Eb23).ne Es1 (by omega)).ne E2 (by omega)).ext E3).ext Eb24).fr EA2 (fun h => ne1L_1_21 _ h rfl)
      have BA2_22 := ((((((BL1_22.ext E1r).ext Eb23).ne Es1 (by omega)).ne E2 (by omega)).ext E3).ext Eb24).fr EA2 (fun h => ne1L_1_22 _ h rfl)
      have BA2_40 := ((((((BL1_40.ext E1r).ext Eb23).ne Es1 (by omega)).ne E2 (by omega)).ext E3).ext Eb24).fr EA2 (fun h => ne1L_1_40 _ h rfl)
      have BA2_901 := ((HBE2.ext E3).ext Eb24).fr EA2 (fun h => ne1L_1_901 _ h rfl)
      have BA2_902 := ((((((BL1_902.ext E1r).ext Eb23).ne Es1 (by omega)).ne E2 (by omega)).ext E3).ext Eb24).fr EA2 (fun h => ne1L_1_902 _ h rfl)
      have BA2_23 := (((Bs1.ne E2 (by omega)).ext E3).ext Eb24).fr EA2 (fun h => nb1 _ h rfl)
      have BA2_24 := B24.fr EA2 (fun h => nb2 _ h rfl)
      refine lx_set (want rfl) sz_94 ((hR1 2).trans rfl) (t_slice rfl) rfl rfl rfl BA2_22 (Nat.le_of_ble_eq_true rfl) ?_
      intro w13 Es2 Bs2
      have F12 := F11.set Es2 (by omega)
      have hzs2 := Es2.size
      refine lx_nil ?_
      refine ⟨(BA2_901.ne Es2 (by omega)), fun w14 E4 HRE4 => ?_⟩
      have F13 := F12.set E4 (by omega)
      have hz4 := E4.size
      exact ⟨(by omega), (show Nx _ _ true from ⟨sq2, cq2, F13, (by omega), ((BA2_1.ne Es2 (by omega)).ne E4 (by omega)), ((BA2_800.ne Es2 (by omega)).ne E4 (by omega)), ((BA2_21.ne Es2 (by omega)).ne E4 (by omega)), (by first | exact (Bs2.ne E4 (by omega)) | (rw [moves_step_t hab, List.length_append]; exact (Bs2.ne E4 (by omega))) | (rw [moves_step_f hab]; exact (Bs2.ne E4 (by omega)))), ((BA2_40.ne Es2 (by omega)).ne E4 (by omega)), HRE4, ((BA2_902.ne Es2 (by omega)).ne E4 (by omega)), (by first | (rw [moves_step_t hab, List.length_append]; exact own_snocE ((ow2.ne Es2 (fun h => ne2_22 _ h rfl)).ne E4 (fun h => ne2_901 _ h rfl))) | (rw [moves_step_f hab]; exact ((ow2.ne Es2 (fun h => ne2_22 _ h rfl)).ne E4 (fun h => ne2_901 _ h rfl)))), ge2, ne2_1, ne2_800, ne2_21, ne2_22, ne2_40, ne2_901, ne2_902⟩)⟩
    ·
      rw [div_mod_n] at hce
      have hab := canE_nz hce
      refine lx_nil ?_
      refine wk_cond_f rfl ?_
      refine wk_skip ?_
      refine ⟨(HBE2.ext E3), fun w11 E5 HRE5 => ?_⟩
      have F14 := F9.set E5 (by omega)
      have hz5 := E5.size
      exact ⟨(by omega), (show Nx _ _ true from ⟨so1_1, co1_1, F14, (by omega), ((((((BL1_1.ext E1r).ext Eb23).ne Es1 (by omega)).ne E2 (by omega)).ext E3).ne E5 (by omega)), ((((((BL1_800.ext E1r).ext Eb23).ne Es1 (by omega)).ne E2 (by omega)).ext E3).ne E5 (by omega)), ((((((BL1_21.ext E1r).ext Eb23).ne Es1 (by omega)).ne E2 (by omega)).ext E3).ne E5 (by omega)), (by first | exact ((((((BL1_22.ext E1r).ext Eb23).ne Es1 (by omega)).ne E2 (by omega)).ext E3).ne E5 (by omega)) | (rw [moves_step_t hab, List.length_append]; exact ((((((BL1_22.ext E1r).ext Eb23).ne Es1 (by omega)).ne E2 (by omega)).ext E3).ne E5 (by omega))) | (rw [moves_step_f hab]; exact ((((((BL1_22.ext E1r).ext Eb23).ne Es1 (by omega)).ne E2 (by omega)).ext E3).ne E5 (by omega)))), ((((((BL1_40.ext E1r).ext Eb23).ne Es1 (by omega)).ne E2 (by omega)).ext E3).ne E5 (by omega)), HRE5, ((((((BL1_902.ext E1r).ext Eb23).ne Es1 (by omega)).ne E2 (by omega)).ext E3).ne E5 (by omega)), (by first | (rw [moves_step_t hab, List.length_append]; exact own_snocE ((((((ow1L_1.ext E1r).ext Eb23).ne Es1 (fun h => nb1 _ h rfl)).ne E2 (fun h => ne1L_1_901 _ h rfl)).ext E3).ne E5 (fun h => ne1L_1_901 _ h rfl))) | (rw [moves_step_f hab]; exact ((((((ow1L_1.ext E1r).ext Eb23).ne Es1 (fun h => nb1 _ h rfl)).ne E2 (fun h => ne1L_1_901 _ h rfl)).ext E3).ne E5 (fun h => ne1L_1_901 _ h rfl)))), ge1L_1, ne1L_1_1, ne1L_1_800, ne1L_1_21, ne1L_1_22, ne1L_1_40, ne1L_1_901, ne1L_1_902⟩)⟩
  ·
    rintro v w6 - (⟨w5, ⟨so1_1, co1_1, FW1, hzW1, BL1_1, BL1_800, BL1_21, BL1_22, BL1_40, BL1_901, BL1_902, ow1L_1, ge1L_1, ne1L_1_1, ne1L_1_800, ne1L_1_21, ne1L_1_22, ne1L_1_40, ne1L_1_901, ne1L_1_902⟩, E1e⟩ | ⟨w5, hf, E1e⟩)
    ·
      have F15 := FW1.ext E1e
      have hz1e := E1e.size
      refine .inl ⟨(BL1_901.ext E1e), fun w7 E1f => ?_⟩
      have F16 := F15.set E1f (by omega)
      have hz1f := E1f.size
      refine wk_seq ?_
      refine wk_region ?_
      refine lx_value (want rfl) (rn_load1Blk ag_94 ((hR1 2).trans rfl) ((BL1_22.ext E1e).ne E1f (by omega)) rfl) ?_
      refine lx_set (want rfl) sz_94 ((hR1 2).trans rfl) (t_slice rfl) rfl rfl rfl ((BL1_22.ext E1e).ne E1f (by omega)) (Nat.le_of_ble_eq_true rfl) ?_
      intro w8 Es3 Bs3
      have F17 := F16.set Es3 (by omega)
      have hzs3 := Es3.size
      refine lx_nil ?_
      refine wk_ret ?_
      refine retM1 (((BL1_902.ext E1e).ne E1f (by omega)).ne Es3 (by omega)) (fun w9 E6 => ?_)
      have F18 := F17.set E6 (by omega)
      have hz6 := E6.size
      refine retR1 Tryd.results59 (.cell ((hR1 2).trans rfl) (run_loadVar_blk1 ag_94 (Bs3.ne E6 (by omega)) rfl)) F18 ?_
      exact movesp_ok ((((ow1L_1.ext E1e).ne E1f (fun h => ne1L_1_901 _ h rfl)).ne Es3 (fun h => ne1L_1_22 _ h rfl)).ne E6 (fun h => ne1L_1_902 _ h rfl)) hTn ge1L_1
    ·
      exact hf.elim

set_option maxHeartbeats 1000000 in
theorem put1_ct (b dim : Nat) (r : Int) (s : Option Addr) (c : Nat) (T : List (TE Pk)) (L : List (List Pk)) (hm : T.map (·.2.2) = L) (hV : Valid dim r L) (p1 p2 p3 : Int) (bp : Nat) (w0 : World) (hC : CubeP w0 b dim r s c T) (hT : Tb w0 1) (hT1 : ∀ k, tb s T k → k ≠ 1) (BP : Blk w0 bp [.int .i64 p1, .int .i64 p2, .int .i64 p3] 41) (hbp : ∀ k, tb s T k → k ≠ bp) :
    CT Tryd.prog 54 [.pointer (some ⟨b, 0, none⟩), .pointer (some ⟨bp, 0, none⟩)] w0 (tb s T) (fun v w => ChgQ w0 b dim r s T [] (putE dim r L (p1, p2, p3)) (putL dim r L (p1, p2, p3)) v w) := by
  have hd := hV.hd
  have h28 := pow2_le dim (Nat.le_refl _) hd
  have hbl := hC.blk.lt
  have hTl := hT.lt
  have hBPl := BP.lt
  have hnL := hV.len
  have h21 := Nat.one_le_two_pow (n := dim)
  have F0 := Fr.refl (tb s T) w0
  have tge : ∀ k, (tb s T) k → (tb s T) k ∨ w0.heap.size ≤ k := fun k h => .inl h
  refine ct_body Tryd.func54 rfl Tryd.ntmps54 (Nat.le_of_ble_eq_true rfl) ?_
  refine wk_seq ?_
  refine wk_region ?_
  refine lx_value (want rfl) (as_slice rfl) ?_
  refine lx_value (want rfl) (as_int rfl) ?_
  refine lx_nil ?_
  refine wk_seq ?_
  refine wk_seq ?_
  refine wk_mix 9 (fun kS => match kS with | 7 => .any (fun I v w => ∃ b, v = .slice (some ⟨b, 0, none⟩) 2 2 ∧ w0.heap.size ≤ b ∧ (I.1 ≤ b ∧ b < I.2) ∧ Blk w b [.int .i64 p1, .int .i64 p2] 3) | 8 => .val (.bool (inB 0 ((2 ^ dim - 1 : Nat) : Int) [p1, p2])) | _ => .none) (by kernel_rfl) (by kernel_rfl) (by intro kS G hk; (try dsimp only at hk); (split at hk) <;> first | (cases hk; done) | (injection hk with hk; subst hk; exact ⟨by intro j hkj I v w w' hR hG; first | exact hG | (obtain ⟨b, h1, h2, hI, h3⟩ := hG; exact ⟨b, h1, h2, hI, h3.ext hR⟩), fun ⟨_, _, _, _, hs⟩ => by (try dsimp only at hs); split at hs <;> cases hs⟩)) (by intro kS s y G hk; (try dsimp only at hk); split at hk <;> cases hk) ?_
  simp only [List.take_succ_cons, List.take_zero, List.take_nil, List.drop_succ_cons, List.drop_zero, List.drop_nil]
  refine mx_calm rfl (want rfl) (fun u1 eu1 fu1 => mv_pointer rfl) ?_
  refine mx_calm rfl (want rfl) (fun u2 eu2 fu2 => rn_nilCheck rfl) ?_
  refine mx_calm rfl (want rfl) (fun u3 eu3 fu3 => rn_loadBlk ag_76 sz_76 rfl (hC.blk.ext ((ext_drawn _).trans' eu3)) rfl rfl) ?_
  refine mx_calm rfl (want rfl) (fun u4 eu4 fu4 => rn_fieldAddr fa_41_0 rfl) ?_
  refine mx_calm rfl (want rfl) (fun u5 eu5 fu5 => rn_load1Blk ag_3 rfl (BP.ext ((ext_drawn _).trans' eu5)) rfl) ?_
  refine mx_calm rfl (want rfl) (fun u6 eu6 fu6 => rn_fieldAddr fa_41_1 rfl) ?_
  refine mx_calm rfl (want rfl) (fun u7 eu7 fu7 => rn_load1Blk ag_3 rfl (BP.ext ((ext_drawn _).trans' eu7)) rfl) ?_
  refine mx_any rfl rfl (want rfl) (fun u8 eu8 fu8 => (do_newS2 (rn_bslice (xs := [.tmp 10, .tmp 12]) Tryd.underlying28 sz_3 ze_3 rfl (argsC (t_int rfl) (argsC (t_int rfl) args0)) (CL.cons rfl rfl (CL.cons rfl rfl CL.nil)) rfl (Nat.le_of_ble_eq_true rfl)) (show _ ≤ _ from (((ext_drawn _).trans' eu8)).size)).mono (fun v w' h => ⟨h.1, h.2⟩)) (fun I13 v13 => ?_)
  refine mx_val rfl (want rfl) (fun u9 eu9 fu9 => by obtain ⟨bA, rfl, hbA, _, hBA⟩ := fu9 13 _ rfl (show (13 : Nat) ∈ _ from by decide); exact do_call (ent_func cf_48 (argsC (t_agg rfl) (argsC (t_slice rfl) args0))) (isswitch_ct dim r _ _ _ hd [p1, p2] _ _ _ u9 (blk_ints [p1, p2] hBA) (by simp)) (fun _ _ E h => ⟨E, h⟩)) ?_
  refine mx_split (fun h14 => ?_) (fun h14 => ?_)
  ·
    obtain ⟨pa, pb, rfl, rfl, hpa, hpb⟩ := in_sw h14
    have hat := at_lt hpa (Nat.le_refl dim)
    obtain ⟨l, hl⟩ : ∃ l, L[pa * (dim + 1) + dim]? = some l := ⟨_, List.getElem?_eq_getElem (by omega)⟩
    have hl8 := hV.le8 hl
    have hlr := (hV.buf hl).1
    refine mx_nil (fun w1 E1' H1 HS => ?_)
    have E1 := (ext_drawn _).trans' E1'
    have F1 := F0.ext E1
    have hz1 := E1.size
    have hI13 := (HS.1 13 _ rfl).2
    simp only at hI13
    have g13 := H1 13 _ rfl
    obtain ⟨bA, rfl, hbbA, hibA, hBbA⟩ := g13
    refine lx_value (want rfl) (rn_not rfl) ?_
    refine lx_nil ?_
    refine wk_cond_f rfl ?_
    refine wk_skip ?_
    refine wk_seq ?_
    refine wk_mix 9 (fun kS => match kS with | 8 => .any (fun I v w => ∃ b, v = .pointer (some ⟨b, 0, none⟩) ∧ w1.heap.size ≤ b ∧ (I.1 ≤ b ∧ b < I.2) ∧ Blk w b [.int .i64 0, .int .i64 0] 82) | _ => .none) (by kernel_rfl) (by kernel_rfl) (by intro kS G hk; (try dsimp only at hk); (split at hk) <;> first | (cases hk; done) | (injection hk with hk; subst hk; exact ⟨by intro j hkj I v w w' hR hG; first | exact hG | (obtain ⟨b, h1, h2, hI, h3⟩ := hG; exact ⟨b, h1, h2, hI, h3.ext hR⟩), fun ⟨_, _, _, _, hs⟩ => by (try dsimp only at hs); split at hs <;> cases hs⟩)) (by intro kS s y G hk; (try dsimp only at hk); split at hk <;> cases hk) ?_
    simp only [List.take_succ_cons, List.take_zero, List.take_nil, List.drop_succ_cons, List.drop_zero, List.drop_nil]
    refine mx_calm rfl (want rfl) (fun u10 eu10 fu10 => rn_fieldAddr fa_41_0 rfl) ?_
    refine mx_calm rfl (want rfl) (fun u11 eu11 fu11 => rn_load1Blk ag_3 rfl ((BP.ext E1).ext ((ext_drawn _).trans' eu11)) rfl) ?_
    refine mx_calm rfl (want rfl) (fun u12 eu12 fu12 => mv_pointer rfl) ?_
    refine mx_calm rfl (want rfl) (fun u13 eu13 fu13 => rn_nilCheck rfl) ?_
    refine mx_calm rfl (want rfl) (fun u14 eu14 fu14 => rn_fieldAddr fa_76_0 rfl) ?_
    refine mx_calm rfl (want rfl) (fun u15 eu15 fu15 => rn_fieldAddr fa_24_0 rfl) ?_
    refine mx_calm rfl (want rfl) (fun u16 eu16 fu16 => rn_load1Blk ag_3 rfl ((hC.blk.ext E1).ext ((ext_drawn _).trans' eu16)) rfl) ?_
    refine mx_calm rfl (want rfl) (fun u17 eu17 fu17 => rn_build2 (t_int rfl) (t_int rfl) (fun w => bd_82_0_1 _ _ w)) ?_
    refine mx_any rfl rfl (want rfl) (fun u18 eu18 fu18 => (do_new2 (rn_alloc ze_82) (show _ ≤ _ from (((ext_drawn _).trans' eu18)).size)).mono (fun v w' h => ⟨h.1, h.2⟩)) (fun I5 v5 => ?_)
    refine mx_nil (fun w2 E2' H2 HS => ?_)
    have E2 := (ext_drawn _).trans' E2'
    have F2 := F1.ext E2
    have hz2 := E2.size
    have hI5 := (HS.1 5 _ rfl).2
    simp only at hI5
    have g5 := H2 5 _ rfl
    (try dsimp only at g5); obtain ⟨b50, hv5, hbb50, hib50, Bb50⟩ := g5; subst hv5; have hlbb50 := Bb50.lt
    have nb1 : ∀ k, tb s T k → k ≠ b50 := fun k hk => by have := (hC.tab).lt hk; omega
    refine lx_set (want rfl) sz_82 rfl (t_agg rfl) rfl rfl rfl Bb50 (Nat.le_of_ble_eq_true rfl) ?_
    intro w3 Es1 Bs1
    have F3 := F2.set Es1 (by omega)
    have hzs1 := Es1.size
    refine lx_nil ?_
    refine wk_seq ?_
    refine wk_seq ?_
    refine wk_region ?_
    refine lx_value (want rfl) (mv_pointer rfl) ?_
    refine lx_value (want rfl) (rn_loadBlk ag_82 sz_82 rfl Bs1 rfl rfl) ?_
    refine lx_call (want rfl) (ent_func cf_55 (argsC (t_pointer rfl) (argsC (t_agg rfl) args0))) (hasroom_ct b dim r s c T L hm hd pa dim (by omega) (by omega) l hl w3 ⟨(((hC.blk.ext E1).ext E2).ne Es1 (by omega)), (((hC.tab.ext E1).ext E2).fr Es1 (fun k hk h => nb1 k hk h)), hC.ne⟩) ?_
    rintro _ w4 E3 rfl
    have F4 := F3.ext E3
    have hz3 := E3.size
    refine lx_split (fun h26 => ?_) (fun h26 => ?_)
    ·
      refine lx_value (want rfl) (rn_not rfl) ?_
      refine lx_nil ?_
      refine wk_cond_f rfl ?_
      refine wk_skip ?_
      refine wk_seq ?_
      refine wk_region ?_
      refine lx_value (want rfl) (mv_pointer rfl) ?_
      refine lx_value (want rfl) (rn_loadBlk ag_41 sz_41 rfl ((((BP.ext E1).ext E2).ne Es1 (by omega)).ext E3) rfl rfl) ?_
      refine lx_value (want rfl) (rn_loadBlk ag_82 sz_82 rfl (Bs1.ext E3) rfl rfl) ?_
      refine lx_call (want rfl) (ent_func cf_56 (argsC (t_pointer rfl) (argsC (t_agg rfl) (argsC (t_agg rfl) args0)))) (put_ct b dim r s c T L hm hd pa dim (by omega) (by omega) l hl _ _ _ (by omega) w4 ⟨((((hC.blk.ext E1).ext E2).ne Es1 (by omega)).ext E3), ((((hC.tab.ext E1).ext E2).fr Es1 (fun k hk h => nb1 k hk h)).ext E3), hC.ne⟩) ?_
      rintro _ w5 E4 ⟨rfl, T2, hC2, hm2, hG2⟩
      have F5 := F4.new' E4 (fun k h => tge k h)
      have hz4 := E4.size
      have tg1 : ∀ k, tb s T2 k → (tb s T) k ∨ w0.heap.size ≤ k := fun k hk => (hG2 k hk).elim (tge k) (fun h => .inr (by omega))
      have tn1_1 : ∀ k, tb s T2 k → k ≠ b := fun k hk => (hG2 k hk).elim (hC.ne k) (fun h => by have := (hC2.blk).lt; omega)
      have tn1_2 : ∀ k, tb s T2 k → k ≠ bp := fun k hk => (hG2 k hk).elim (hbp k) (fun h => by have := (BP).lt; omega)
      have tn1_800 : ∀ k, tb s T2 k → k ≠ 1 := fun k hk => (hG2 k hk).elim (hT1 k) (fun h => by have := (hT).lt; omega)
      have tn1_50 : ∀ k, tb s T2 k → k ≠ b50 := fun k hk => (hG2 k hk).elim (nb1 k) (fun h => by have := (Bs1).lt; omega)
      refine lx_nil ?_
      refine wk_seq ?_
      refine wk_region ?_
      refine lx_value (want rfl) (as_slice rfl) ?_
      refine lx_value (want rfl) (as_int rfl) ?_
      refine lx_nil ?_
      refine wk_ret ?_
      refine retR2 Tryd.results54 (.tmp (t_slice rfl)) (.tmp (t_int rfl)) F5 ?_
      exact put1_ok hV hpa hpb hl (of_decide_eq_true h26) ⟨hC2.blk, hC2.tab, tn1_1⟩ hm2 tg1
    ·
      refine lx_value (want rfl) (rn_not rfl) ?_
      refine lx_nil ?_
      refine wk_cond_t rfl ?_
      refine wk_seq ?_
      refine wk_region ?_
      refine lx_value (want rfl) (as_slice rfl) ?_
      refine lx_value (want rfl) (as_int rfl) ?_
      refine lx_nil ?_
      refine wk_ret ?_
      refine retR2 Tryd.results54 (.tmp (t_slice rfl)) (.tmp (t_int rfl)) F4 ?_
      exact put1_no (putE_full hV hpa hpb hl (by have := of_decide_eq_false h26; omega)) (by decide) ⟨((((hC.blk.ext E1).ext E2).ne Es1 (by omega)).ext E3), ((((hC.tab.ext E1).ext E2).fr Es1 (fun k hk h => nb1 k hk h)).ext E3), hC.ne⟩ hm
  ·
    refine mx_nil (fun w1 E5' H3 HS => ?_)
    have E5 := (ext_drawn _).trans' E5'
    have F6 := F0.ext E5
    have hz5 := E5.size
    have hI13 := (HS.1 13 _ rfl).2
    simp only at hI13
    have g13 := H3 13 _ rfl
    obtain ⟨bA, rfl, hbbA, hibA, hBbA⟩ := g13
    refine lx_value (want rfl) (rn_not rfl) ?_
    refine lx_nil ?_
    refine wk_cond_t rfl ?_
    refine wk_seq ?_
    refine wk_region ?_
    refine lx_value (want rfl) (as_slice rfl) ?_
    refine lx_value (want rfl) (as_int rfl) ?_
    refine lx_nil ?_
    refine wk_ret ?_
    refine retR2 Tryd.results54 (.tmp (t_slice rfl)) (.tmp (t_int rfl)) F6 ?_
    exact put1_no (putE_none hV (by have := not_sw h14; simp only; omega)) (by decide) ⟨(hC.blk.ext E5), (hC.tab.ext E5), hC.ne⟩ hm

theorem goes_ct (dim : Nat) (r : Int) (L : List (List Pk)) (s : Option Addr) (c : Nat) (G : Nat → Prop) (hV : Valid dim r L) (n : Nat) (l : List Pk) (hn : L[n]? = some l) (w0 : World) (hL : BufS G w0 s L) :
    CT Tryd.prog 70 [.agg #[.int .i64 dim, .int .i64 r, .slice s L.length c], .int .i64 n] w0 no (fun v _ => v = .bool (goesB dim r L n)) := by
  obtain ⟨hn1, hn2, hn3, hn4⟩ := hV.at hn
  have hnL := hV.len
  have h32 := prod_le hV.hd
  have hmod := Nat.mod_le n (dim + 1)
  have hd := hV.hd
  obtain ⟨bx, ox, rfl, _, sx, cx, hcx, hpx⟩ := hL n _ hn
  have F0 := Fr.refl no w0
  refine ct_body Tryd.func70 rfl Tryd.ntmps70 (Nat.le_of_ble_eq_true rfl) ?_
  refine wk_seq ?_
  refine wk_region ?_
  refine lx_new (want rfl) (rn_box (t_agg rfl)) ?_
  intro b1 w1 hb1 Eb1 B1 hlb1
  have F1 := F0.ext Eb1
  have hzb1 := Eb1.size
  refine lx_value (want rfl) (as_bool rfl) ?_
  refine lx_nil ?_
  refine wk_seq ?_
  refine wk_seq ?_
  refine wk_region ?_
  refine lx_value (want rfl) (rn_loadBlk ag_24 sz_24 rfl B1 rfl rfl) ?_
  refine lx_value (want rfl) (mv_int rfl) ?_
  refine lx_call (want rfl) (ent_func cf_63 (argsC (t_agg rfl) (argsC (t_int rfl) args0))) (able_ct dim r L _ _ _ hV n l hn w1 (hL.fr (buf_stab _) F1 (fun _ _ h => h))) ?_
  rintro _ w2 E1 rfl
  have F2 := F1.ext E1
  have hz1 := E1.size
  refine lx_split (fun hab => ?_) (fun hab => ?_)
  ·
    obtain ⟨p, q, rfl⟩ := able_cons hn hab
    refine lx_value (want rfl) (rn_not rfl) ?_
    refine lx_nil ?_
    refine wk_cond_f rfl ?_
    refine wk_skip ?_
    refine wk_seq ?_
    refine wk_region ?_
    refine lx_value (want rfl) (rn_loadBlk ag_24 sz_24 rfl (B1.ext E1) rfl rfl) ?_
    refine lx_value (want rfl) (mv_int rfl) ?_
    refine lx_call (want rfl) (ent_func cf_71 (argsC (t_agg rfl) (argsC (t_int rfl) args0))) (target_ct dim r L _ _ _ hV n _ q hn w2 (hL.fr (buf_stab _) F2 (fun _ _ h => h))) ?_
    rintro _ w3 E2 rfl
    have F3 := F2.ext E2
    have hz2 := E2.size
    refine lx_value (want rfl) (as_int rfl) ?_
    refine lx_nil ?_
    refine wk_seq ?_
    refine wk_region ?_
    refine lx_value (want rfl) (mv_int rfl) ?_
    refine lx_value (want rfl) (mv_int rfl) ?_
    refine lx_value (want rfl) (rn_fieldAddr fa_24_0 rfl) ?_
    refine lx_value (want rfl) (rn_load1Blk ag_3 rfl ((B1.ext E1).ext E2) rfl) ?_
    refine lx_value (want rfl) (rn_addN rfl (n := 1) rfl (by omega)) ?_
    refine lx_value (want rfl) (rn_remN rfl rfl (by omega)) ?_
    refine lx_value (want rfl) (rn_subN rfl rfl ⟨by omega, by omega⟩) ?_
    refine lx_value (want rfl) (as_int rfl) ?_
    refine lx_nil ?_
    refine wk_seq ?_
    refine wk_seq ?_
    refine wk_region ?_
    refine lx_value (want rfl) (mv_int rfl) ?_
    refine lx_value (want rfl) (as_int rfl) ?_
    refine lx_nil ?_
    refine wk_block ?_
    refine wk_loopA [4, 7, 23, 24, 25, 26, 27, 28, 29, 30, 31, 32, 33, 34, 35, 36, 37, 38, 39, 40, 41, 42, 43, 44, 45] no (fun nM ρ w => ∃ (m : Nat), nM = n - m ∧ ρ 7 = .int .i64 m ∧ (n - n % (dim + 1) ≤ m) ∧ (m ≤ n) ∧ (noClash dim L n m)) _ ⟨n - n % (dim + 1), rfl, rfl, Nat.le_refl _, Nat.sub_le _ _, (fun j h1 h2 => by omega)⟩ ?_
    rintro n1 ρ1 w4 A1 EL1 ⟨m, rfl, hs1_7, hm1, hm2, hq⟩
    have F4 := F3.ext EL1
    have hzL1 := EL1.size
    refine wk_seq ?_
    refine wk_seq ?_
    refine wk_region ?_
    refine lx_value (want rfl) (mv_int hs1_7) ?_
    refine lx_value (want rfl) (mv_int (A1.at 1 rfl rfl)) ?_
    refine lx_value (want rfl) (rn_lss rfl rfl) ?_
    refine lx_dec (fun hmn => ?_) (fun hmn => ?_)
    ·
      obtain ⟨lm, hlm⟩ : ∃ l, L[m]? = some l := ⟨_, List.getElem?_eq_getElem (by omega)⟩
      obtain ⟨bm, om, em, _, sm, cm, hcm, hpm⟩ := hL m lm hlm
      injection em with em
      injection em with e1 e2
      subst e1
      subst e2
      refine lx_value (want rfl) (mv_bool rfl) ?_
      refine lx_value (want_if (j := 3) (d := 26) (x := true) (y := true) rfl rfl (by decide) rfl) (mv_int (A1.at 5 rfl rfl)) ?_
      refine lx_value (want_if (j := 3) (d := 26) (x := true) (y := true) rfl rfl (by decide) rfl) (rn_geq rfl rfl) ?_
      refine lx_dec (fun hge => ?_) (fun hge => ?_)
      ·
        refine lx_value (want rfl) (pick_t rfl rfl) ?_
        refine lx_nil ?_
        refine wk_cond_t rfl ?_
        refine wk_skip ?_
        refine wk_seq ?_
        refine wk_block ?_
        refine wk_seq ?_
        refine wk_region ?_
        refine lx_value (want rfl) (rn_fieldAddr fa_24_2 (A1.at 2 rfl rfl)) ?_
        refine lx_value (want rfl) (rn_load1Blk ag_22 rfl (((B1.ext E1).ext E2).ext EL1) rfl) ?_
        refine lx_value (want rfl) (mv_int hs1_7) ?_
        refine lx_value (want rfl) (rn_index m Tryd.underlying22 sz_49 rfl rfl rfl (by omega)) ?_
        refine lx_value (want rfl) (rn_load1 ag_49 rfl (F4.cell (fun h => h) hcm)) ?_
        refine lx_value (want rfl) (rn_len Tryd.underlying49 rfl) ?_
        refine lx_value (want rfl) (rn_gtr rfl rfl) ?_
        refine lx_dec (fun hne => ?_) (fun hne => ?_)
        ·
          obtain ⟨x, y, rfl⟩ := cons_of' hne
          refine lx_value (want rfl) (mv_bool rfl) ?_
          refine lx_value (want_if (j := 7) (d := 39) (x := true) (y := true) rfl rfl (by decide) rfl) (rn_loadBlk ag_24 sz_24 (A1.at 2 rfl rfl) (((B1.ext E1).ext E2).ext EL1) rfl rfl) ?_
          refine lx_value (want_if (j := 7) (d := 39) (x := true) (y := true) rfl rfl (by decide) rfl) (mv_int hs1_7) ?_
          refine lx_call (want_if (j := 7) (d := 39) (x := true) (y := true) rfl rfl (by decide) rfl) (ent_func cf_71 (argsC (t_agg rfl) (argsC (t_int rfl) args0))) (target_ct dim r L _ _ _ hV m x y hlm w4 (hL.fr (buf_stab _) F4 (fun _ _ h => h))) ?_
          rintro _ w5 E3 rfl
          have F5 := F4.ext E3
          have hz3 := E3.size
          refine lx_value (want_if (j := 7) (d := 39) (x := true) (y := true) rfl rfl (by decide) rfl) (mv_int (A1.at 5 rfl rfl)) ?_
          refine lx_value (want_if (j := 7) (d := 39) (x := true) (y := true) rfl rfl (by decide) rfl) (rn_eql rfl rfl) ?_
          refine lx_dec (fun heq => ?_) (fun heq => ?_)
          ·
            refine lx_value (want rfl) (pick_t rfl rfl) ?_
            refine lx_nil ?_
            refine wk_cond_t rfl ?_
            refine wk_seq ?_
            refine wk_region ?_
            refine lx_value (want rfl) (as_bool rfl) ?_
            refine lx_nil ?_
            refine wk_ret ?_
            refine retR1 Tryd.results70 (.tmp (t_bool rfl)) F5 ?_
            exact goes_clash hm1 (by omega) (clash_yes hn hlm hge heq)
          ·
            refine lx_value (want rfl) (pick_t rfl rfl) ?_
            refine lx_nil ?_
            refine wk_cond_f rfl ?_
            refine wk_skip ?_
            refine wk_region ?_
            refine lx_value (want rfl) (mv_int hs1_7) ?_
            refine lx_value (want rfl) (rn_add rfl rfl (by omega)) ?_
            refine lx_value (want rfl) (as_int rfl) ?_
            refine lx_nil ?_
            exact ⟨rfl, ((((((((((((((((((((((((A1.up rfl _).up rfl _).up rfl _).up rfl _).up rfl _).up rfl _).up rfl _).up rfl _).up rfl _).up rfl _).up rfl _).up rfl _).up rfl _).up rfl _).up rfl _).up rfl _).up rfl _).up rfl _).up rfl _).up rfl _).up rfl _).up rfl _).up rfl _).up rfl _), (Fr.ext EL1 E3), _, (by omega), m + 1, rfl, rfl, by omega, by omega, (noClash_step hq (by first | exact clash_nil hlm hne | exact clash_no hn hlm heq))⟩
        ·
          refine lx_value (want rfl) (mv_bool rfl) ?_
          refine lx_skip (want_if (j := 7) (d := 39) (x := true) (y := false) rfl rfl (by decide) rfl) ?_
          refine lx_skip (want_if (j := 7) (d := 39) (x := true) (y := false) rfl rfl (by decide) rfl) ?_
          refine lx_skip (want_if (j := 7) (d := 39) (x := true) (y := false) rfl rfl (by decide) rfl) ?_
          refine lx_skip (want_if (j := 7) (d := 39) (x := true) (y := false) rfl rfl (by decide) rfl) ?_
          refine lx_skip (want_if (j := 7) (d := 39) (x := true) (y := false) rfl rfl (by decide) rfl) ?_
          refine lx_value (want rfl) (pick_f rfl rfl) ?_
          refine lx_nil ?_
          refine wk_cond_f rfl ?_
          refine wk_skip ?_
          refine wk_region ?_
          refine lx_value (want rfl) (mv_int hs1_7) ?_
          refine lx_value (want rfl) (rn_add rfl rfl (by omega)) ?_
          refine lx_value (want rfl) (as_int rfl) ?_
          refine lx_nil ?_
          exact ⟨rfl, ((((((((((((((((((((((((A1.up rfl _).up rfl _).up rfl _).up rfl _).up rfl _).up rfl _).up rfl _).up rfl _).up rfl _).up rfl _).up rfl _).up rfl _).up rfl _).up rfl _).up rfl _).up rfl _).up rfl _).up rfl _).up rfl _).up rfl _).up rfl _).up rfl _).up rfl _).up rfl _), EL1, _, (by omega), m + 1, rfl, rfl, by omega, by omega, (noClash_step hq (by first | exact clash_nil hlm hne | exact clash_no hn hlm heq))⟩
      ·
        refine lx_value (want rfl) (pick_t rfl rfl) ?_
        refine lx_nil ?_
        refine wk_cond_f rfl ?_
        refine wk_exit ?_
        refine wk_seq ?_
        refine wk_region ?_
        refine lx_value (want rfl) (as_bool rfl) ?_
        refine lx_nil ?_
        refine wk_ret ?_
        refine retR1 Tryd.results70 (.tmp (t_bool rfl)) F4 ?_
        exact goes_out hn hab hge
    ·
      refine lx_value (want rfl) (mv_bool rfl) ?_
      refine lx_skip (want_if (j := 3) (d := 26) (x := true) (y := false) rfl rfl (by decide) rfl) ?_
      refine lx_skip (want_if (j := 3) (d := 26) (x := true) (y := false) rfl rfl (by decide) rfl) ?_
      refine lx_value (want rfl) (pick_f rfl rfl) ?_
      refine lx_nil ?_
      refine wk_cond_f rfl ?_
      refine wk_exit ?_
      refine wk_seq ?_
      refine wk_region ?_
      refine lx_value (want rfl) (as_bool rfl) ?_
      refine lx_nil ?_
      refine wk_ret ?_
      refine retR1 Tryd.results70 (.tmp (t_bool rfl)) F4 ?_
      exact goes_yes hab hq (by omega)
  ·
    refine lx_value (want rfl) (rn_not rfl) ?_
    refine lx_nil ?_
    refine wk_cond_t rfl ?_
    refine wk_seq ?_
    refine wk_region ?_
    refine lx_value (want rfl) (as_bool rfl) ?_
    refine lx_nil ?_
    refine wk_ret ?_
    refine retR1 Tryd.results70 (.tmp (t_bool rfl)) F2 ?_
    exact goes_able hab

set_option maxHeartbeats 1000000 in
theorem comes_ct (dim : Nat) (r : Int) (s : Option Addr) (n c : Nat) (hd : dim ≤ 3) (a b : Nat) (p3 : Int) (x y : Nat) (ha : a < 8) (hb : b < 8) (w0 : World) (hT : Tb w0 1) :
    CT Tryd.prog 82 [.agg #[.int .i64 dim, .int .i64 r, .slice s n c], .agg #[.int .i64 a, .int .i64 b, .int .i64 p3], .agg #[.int .i64 x, .int .i64 y]] w0 no (fun v _ => v = .bool ((spotsL a b dim).any (isSp x y))) := by
  have hT1 := hT.lt
  have F0 := Fr.refl no w0
  refine ct_bodyM Tryd.func82 rfl Tryd.ntmps82 (Nat.le_of_ble_eq_true rfl) ?_
  refine wk_seq ?_
  refine wk_region ?_
  refine lx_new (want rfl) (rn_box (t_agg rfl)) ?_
  intro b21 w1 hb21 Eb21 B21 hlb21
  have F1 := F0.ext Eb21
  have hzb21 := Eb21.size
  refine lx_new (want rfl) (rn_box (t_agg rfl)) ?_
  intro b22 w2 hb22 Eb22 B22 hlb22
  have F2 := F1.ext Eb22
  have hzb22 := Eb22.size
  refine lx_new (want rfl) (rn_box (t_agg rfl)) ?_
  intro b23 w3 hb23 Eb23 B23 hlb23
  have F3 := F2.ext Eb23
  have hzb23 := Eb23.size
  refine lx_new (want rfl) (rn_alloc ze_4) ?_
  intro b24 w4 hb24 Eb24 B24 hlb24
  have F4 := F3.ext Eb24
  have hzb24 := Eb24.size
  refine lx_nil ?_
  refine wk_seq ?_
  refine wk_seq ?_
  refine wk_region ?_
  refine lx_value (want rfl) (rn_loadBlk ag_41 sz_41 rfl ((B22.ext Eb23).ext Eb24) rfl rfl) ?_
  refine lx_value (want rfl) (rn_fieldAddr fa_76_0 rfl) ?_
  refine lx_value (want rfl) (rn_fieldAddr fa_24_0 rfl) ?_
  refine lx_value (want rfl) (rn_load1Blk ag_3 rfl (((B21.ext Eb22).ext Eb23).ext Eb24) rfl) ?_
  refine lx_call (want rfl) (ent_func cf_49 (argsC (t_agg rfl) (argsC (t_int rfl) args0))) (cway_ct _ _ _ _ w4) ?_
  rintro _ w5 E1 ⟨bw1, bw2, rfl, BW1, BW2, hw1, hw2⟩
  have F5 := F4.ext E1
  have hz1 := E1.size
  have hlbw1 := (BW1).lt
  have hlbw2 := (BW2).lt
  refine lx_nil ?_
  refine wk_block ?_
  refine wk_abs ?_
  intro ρR1 hR1
  refine wk_range (ps := [13]) ((hR1 12).trans rfl) cf_75 ?_
  intro fR1 db1 l1 w6 RC1 hRC1 hdb1 hl1 hsz1 ER1 HD1 HL1
  have F6 := F5.ext ER1
  have hzR1 := ER1.size
  have hlt1_l := (HL1).lt
  have hlt1_d := (HD1).lt
  obtain ⟨bI1, hbI1⟩ : ∃ b, b = w6.heap.size := ⟨_, rfl⟩
  have hlb1_800 := (((((((hT.ext Eb21).ext Eb22).ext Eb23).ext Eb24).ext E1).ext ER1)).lt
  have hlb1_21 := ((((((B21.ext Eb22).ext Eb23).ext Eb24).ext E1).ext ER1)).lt
  have hlb1_22 := (((((B22.ext Eb23).ext Eb24).ext E1).ext ER1)).lt
  have hlb1_23 := ((((B23.ext Eb24).ext E1).ext ER1)).lt
  have hlb1_24 := (((B24.ext E1).ext ER1)).lt
  have hlb1_10 := ((BW1.ext ER1)).lt
  have hlb1_11 := ((BW2.ext ER1)).lt
  have hlb1_901 := (HL1).lt
  have hlb1_902 := (HD1).lt
  refine CT.mono (way1_ct l1 bw1 bw2 dim a b p3 ha hb bI1 (fun (i : Nat) (w : World) => Fr no w0 w ∧ w6.heap.size ≤ w.heap.size ∧ Tb w 1 ∧ Blk w b21 (cellsOf B21) 76 ∧ Blk w b22 (cellsOf B22) 41 ∧ Blk w b23 (cellsOf B23) 82 ∧ Blk w b24 (cellsOf B24) 4 ∧ Blk w bw1 (cellsOf BW1) 41 ∧ Blk w bw2 (cellsOf BW2) 3 ∧ At w l1 (RC1 .ready none) ∧ At w db1 (.deferred (some [])) ∧ (((spotsL a b dim).take i).any (isSp x y) = false)) (fun (w : World) => Fr no w0 w ∧ w6.heap.size ≤ w.heap.size ∧ At w l1 (RC1 .done (some .ret)) ∧ At w db1 (.deferred (some [])) ∧ Blk w b24 [.bool true] 4 ∧ (spotsL a b dim).any (isSp x y) = true) w6 hbI1 ⟨F6, (by omega), ((((((hT.ext Eb21).ext Eb22).ext Eb23).ext Eb24).ext E1).ext ER1), (((((B21.ext Eb22).ext Eb23).ext Eb24).ext E1).ext ER1), ((((B22.ext Eb23).ext Eb24).ext E1).ext ER1), (((B23.ext Eb24).ext E1).ext ER1), ((B24.ext E1).ext ER1), (BW1.ext ER1), (BW2.ext ER1), HL1, HD1, rfl⟩ (by rintro i w ⟨FW1, hzW1, BL1_800, BL1_21, BL1_22, BL1_23, BL1_24, BL1_10, BL1_11, BL1_901, BL1_902, hq⟩; exact ⟨BL1_10, BL1_11, BL1_800⟩) (by rintro i w ⟨FW1, hzW1, BL1_800, BL1_21, BL1_22, BL1_23, BL1_24, BL1_10, BL1_11, BL1_901, BL1_902, hq⟩; exact (Fr.between F6 FW1 hzW1).mono (fun _ _ _ => trivial)) (by rintro w ⟨FZ1, hzZ1, HZl1, HZd1, BZ1_24, hz⟩; exact (Fr.between F6 FZ1 hzZ1).mono (fun _ _ _ => trivial)) ?_) (fun _ _ h => h) ?_
  ·
    rintro i w7 w8 cs1 sx kx hi1 ⟨FW1, hzW1, BL1_800, BL1_21, BL1_22, BL1_23, BL1_24, BL1_10, BL1_11, BL1_901, BL1_902, hq⟩ E1r B1r
    have F7 := FW1.set E1r (by omega)
    have hz1r := E1r.size
    have hlI1 := (B1r).lt
    refine yd_round hRC1 (BL1_901.ne E1r (by omega)) rfl ?_
    refine wk_region ?_
    refine lx_new (want rfl) (rn_alloc ze_82) ?_
    intro b25 w9 hb25 Eb25 B25 hlb25
    have F8 := F7.ext Eb25
    have hzb25 := Eb25.size
    refine lx_set (want rfl) sz_82 rfl rfl rfl rfl rfl B25 (Nat.le_of_ble_eq_true rfl) ?_
    intro w10 Es1 Bs1
    have F9 := F8.set Es1 (by omega)
    have hzs1 := Es1.size
    refine lx_nil ?_
    refine ⟨rfl, (((BL1_901.ne E1r (by omega)).ext Eb25).ne Es1 (by omega)), fun w11 E2 HBE2 => ?_⟩
    have F10 := F9.set E2 (by omega)
    have hz2 := E2.size
    refine wk_block ?_
    refine wk_seq ?_
    refine wk_region ?_
    refine lx_value (want rfl) (rn_loadBlk ag_82 sz_82 rfl (Bs1.ne E2 (by omega)) rfl rfl) ?_
    refine lx_value (want rfl) (rn_loadBlk ag_82 sz_82 ((hR1 5).trans rfl) ((((BL1_23.ne E1r (by omega)).ext Eb25).ne Es1 (by omega)).ne E2 (by omega)) rfl rfl) ?_
    refine lx_value (want rfl) (rn_cmpS (t_agg rfl) (t_agg rfl) (geql_82 _ _ _ _) (eql_82 _ _ _ _)) ?_
    refine lx_dec (fun he => ?_) (fun he => ?_)
    ·
      refine lx_nil ?_
      refine wk_cond_t rfl ?_
      refine wk_seq ?_
      refine wk_region ?_
      refine lx_set (want rfl) sz_4 ((hR1 6).trans rfl) (t_bool rfl) rfl rfl rfl ((((BL1_24.ne E1r (by omega)).ext Eb25).ne Es1 (by omega)).ne E2 (by omega)) (Nat.le_of_ble_eq_true rfl) ?_
      intro w12 Es2 Bs2
      have F11 := F10.set Es2 (by omega)
      have hzs2 := Es2.size
      refine lx_nil ?_
      refine wk_ret ?_
      refine ⟨(HBE2.ne Es2 (by omega)), fun w13 E3 HRE3 => ?_⟩
      have F12 := F11.set E3 (by omega)
      have hz3 := E3.size
      exact ⟨(by omega), (((((B1r.ext Eb25).ne Es1 (by omega)).ne E2 (by omega)).ne Es2 (by omega)).ne E3 (by omega)), (show Nx _ _ false from ⟨F12, (by omega), HRE3, ((((((BL1_902.ne E1r (by omega)).ext Eb25).ne Es1 (by omega)).ne E2 (by omega)).ne Es2 (by omega)).ne E3 (by omega)), (Bs2.ne E3 (by omega)), sp_yes hi1 he⟩)⟩
    ·
      refine lx_nil ?_
      refine wk_cond_f rfl ?_
      refine wk_skip ?_
      refine ⟨HBE2, fun w12 E4 HRE4 => ?_⟩
      have F13 := F10.set E4 (by omega)
      have hz4 := E4.size
      exact ⟨(by omega), ((((B1r.ext Eb25).ne Es1 (by omega)).ne E2 (by omega)).ne E4 (by omega)), (show Nx _ _ true from ⟨F13, (by omega), (((((BL1_800.ne E1r (by omega)).ext Eb25).ne Es1 (by omega)).ne E2 (by omega)).ne E4 (by omega)), (((((BL1_21.ne E1r (by omega)).ext Eb25).ne Es1 (by omega)).ne E2 (by omega)).ne E4 (by omega)), (((((BL1_22.ne E1r (by omega)).ext Eb25).ne Es1 (by omega)).ne E2 (by omega)).ne E4 (by omega)), (((((BL1_23.ne E1r (by omega)).ext Eb25).ne Es1 (by omega)).ne E2 (by omega)).ne E4 (by omega)), (((((BL1_24.ne E1r (by omega)).ext Eb25).ne Es1 (by omega)).ne E2 (by omega)).ne E4 (by omega)), (((((BL1_10.ne E1r (by omega)).ext Eb25).ne Es1 (by omega)).ne E2 (by omega)).ne E4 (by omega)), (((((BL1_11.ne E1r (by omega)).ext Eb25).ne Es1 (by omega)).ne E2 (by omega)).ne E4 (by omega)), HRE4, (((((BL1_902.ne E1r (by omega)).ext Eb25).ne Es1 (by omega)).ne E2 (by omega)).ne E4 (by omega)), any_step hq hi1 (sp_no he)⟩)⟩
  ·
    rintro v w8 - (⟨w7, ⟨FW1, hzW1, BL1_800, BL1_21, BL1_22, BL1_23, BL1_24, BL1_10, BL1_11, BL1_901, BL1_902, hq⟩, E1e⟩ | ⟨w7, ⟨FZ1, hzZ1, HZl1, HZd1, BZ1_24, hz⟩, E1e⟩)
    ·
      have F14 := FW1.set E1e (by omega)
      have hz1e := E1e.size
      refine .inl ⟨(BL1_901.ne E1e (by omega)), fun w9 E1f => ?_⟩
      have F15 := F14.set E1f (by omega)
      have hz1f := E1f.size
      refine wk_seq ?_
      refine wk_region ?_
      refine lx_set (want rfl) sz_4 ((hR1 6).trans rfl) (t_bool rfl) rfl rfl rfl ((BL1_24.ne E1e (by omega)).ne E1f (by omega)) (Nat.le_of_ble_eq_true rfl) ?_
      intro w10 Es3 Bs3
      have F16 := F15.set Es3 (by omega)
      have hzs3 := Es3.size
      refine lx_nil ?_
      refine wk_ret ?_
      refine retM1 (((BL1_902.ne E1e (by omega)).ne E1f (by omega)).ne Es3 (by omega)) (fun w11 E5 => ?_)
      have F17 := F16.set E5 (by omega)
      have hz5 := E5.size
      refine retR1 Tryd.results82 (.cell ((hR1 6).trans rfl) (run_loadVar_blk1 ag_4 (Bs3.ne E5 (by omega)) rfl)) F17 ?_
      exact congrArg Value.bool (any_end hq).symm
    ·
      have F18 := FZ1.set E1e (by omega)
      have hz1e := E1e.size
      refine .inr ⟨(HZl1.ne E1e (by omega)), fun w9 E1f => ?_⟩
      have F19 := F18.set E1f (by omega)
      have hz1f := E1f.size
      refine retM1 ((HZd1.ne E1e (by omega)).ne E1f (by omega)) (fun w10 E6 => ?_)
      have F20 := F19.set E6 (by omega)
      have hz6 := E6.size
      refine retR1 Tryd.results82 (.cell ((hR1 6).trans rfl) (run_loadVar_blk1 ag_4 (((BZ1_24.ne E1e (by omega)).ne E1f (by omega)).ne E6 (by omega)) rfl)) F20 ?_
      exact congrArg Value.bool hz.symm

end Go.Proofs.YtlfclnkoimfhmaaDoor

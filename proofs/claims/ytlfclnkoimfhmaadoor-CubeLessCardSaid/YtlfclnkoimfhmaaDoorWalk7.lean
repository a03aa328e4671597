/- What functions of the cube compute: cround. -/
import Derived.Test.YtlfclnkoimfhmaaDoorFacts
import Derived.Test.YtlfclnkoimfhmaaDoorPre
import Derived.Test.YtlfclnkoimfhmaaDoorWalk1
import Derived.Test.YtlfclnkoimfhmaaDoorWalk2
import Derived.Test.YtlfclnkoimfhmaaDoorWalk3
import Derived.Test.YtlfclnkoimfhmaaDoorWalk4
import Derived.Test.YtlfclnkoimfhmaaDoorWalk6
set_option linter.unusedVariables false
set_option linter.unusedSimpArgs false
namespace Go.Proofs.YtlfclnkoimfhmaaDoor
open Go Go.RowKit Go.Mix Go.Eng
set_option maxHeartbeats 2000000 in
set_option maxRecDepth 100000 in
theorem cround_ct (b dim : Nat) (r : Int) (s : Option Addr) (c : Nat) (T : List (TE Pk)) (L : List (List Pk)) (hm : T.map (·.2.2) = L) (hV : Valid dim r L) (w0 : World) (hC : CubeP w0 b dim r s c T) (hT : Tb w0 1) (hT1 : ∀ k, tb s T k → k ≠ 1) :
    CT Tryd.prog 68 [.pointer (some ⟨b, 0, none⟩)] w0 (tb s T) (fun v w => RoundP w0 b dim r s T L v w) := by
  have hd := hV.hd
  have h28 := pow2_le dim (Nat.le_refl _) hd
  have hbl := hC.blk.lt
  have hTl := hT.lt
  have hTn : T.length = L.length := by rw [← hm, List.length_map]
  have hnL := hV.len
  have h32 := prod_le hd
  have F0 := Fr.refl (tb s T) w0
  have tge : ∀ k, (tb s T) k → (tb s T) k ∨ w0.heap.size ≤ k := fun k h => .inl h
  refine ct_bodyM Tryd.func68 rfl Tryd.ntmps68 (Nat.le_of_ble_eq_true rfl) ?_
  refine wk_seq ?_
  refine wk_region ?_
  refine lx_new (want rfl) (rn_box (t_pointer rfl)) ?_
  intro b21 w1 hb21 Eb21 B21 hlb21
  have F1 := F0.ext Eb21
  have hzb21 := Eb21.size
  have nb1 : ∀ k, tb s T k → k ≠ b21 := fun k hk => by have := (hC.tab).lt hk; omega
  refine lx_value (want rfl) (as_slice rfl) ?_
  refine lx_nil ?_
  refine wk_seq ?_
  refine wk_region ?_
  refine lx_new (want rfl) (rn_alloc ze_94) ?_
  intro b22 w2 hb22 Eb22 B22 hlb22
  have F2 := F1.ext Eb22
  have hzb22 := Eb22.size
  have nb2 : ∀ k, tb s T k → k ≠ b22 := fun k hk => by have := (hC.tab).lt hk; omega
  refine lx_nil ?_
  refine wk_seq ?_
  refine wk_region ?_
  refine lx_makeMap (want rfl) ?_
  intro b23 w3 hb23 Eb23 B23
  have F3 := F2.ext Eb23
  have hzb23 := Eb23.size
  have hlb23 := B23.lt
  have nb3 : ∀ k, tb s T k → k ≠ b23 := fun k hk => by have := (hC.tab).lt hk; omega
  refine lx_new (want rfl) (rn_alloc ze_126) ?_
  intro b24 w4 hb24 Eb24 B24 hlb24
  have F4 := F3.ext Eb24
  have hzb24 := Eb24.size
  have nb4 : ∀ k, tb s T k → k ≠ b24 := fun k hk => by have := (hC.tab).lt hk; omega
  refine lx_set (want rfl) sz_126 rfl (t_map rfl) rfl rfl rfl B24 (Nat.le_of_ble_eq_true rfl) ?_
  intro w5 Es1 Bs1
  have F5 := F4.set Es1 (by omega)
  have hzs1 := Es1.size
  refine lx_nil ?_
  refine wk_seq ?_
  refine wk_seq ?_
  refine wk_region ?_
  refine lx_value (want rfl) (rn_load1Blk ag_84 rfl ((((B21.ext Eb22).ext Eb23).ext Eb24).ne Es1 (by omega)) rfl) ?_
  refine lx_value (want rfl) (rn_nilCheck rfl) ?_
  refine lx_value (want rfl) (rn_loadBlk ag_76 sz_76 rfl (((((hC.blk.ext Eb21).ext Eb22).ext Eb23).ext Eb24).ne Es1 (by omega)) rfl rfl) ?_
  refine lx_call (want rfl) (ent_func cf_80 (argsC (t_agg rfl) args0)) (spots_ct dim r _ _ _ w5) ?_
  rintro _ w6 E1 ⟨bs, rfl, BS, hbs⟩
  have F6 := F5.ext E1
  have hz1 := E1.size
  have hlbs := (BS).lt
  have nb5 : ∀ k, tb s T k → k ≠ bs := fun k hk => by have := (hC.tab).lt hk; omega
  refine lx_nil ?_
  refine wk_block ?_
  refine wk_abs ?_
  intro ρR1 hR1
  refine wk_range (ps := [18, 19]) ((hR1 17).trans rfl) cf_90 ?_
  intro fR1 db1 l1 w7 RC1 hRC1 hdb1 hl1 hsz1 ER1 HD1 HL1
  have F7 := F6.ext ER1
  have hzR1 := ER1.size
  have nb6 : ∀ k, tb s T k → k ≠ l1 := fun k hk => by have := (hC.tab).lt hk; omega
  have nb7 : ∀ k, tb s T k → k ≠ db1 := fun k hk => by have := (hC.tab).lt hk; omega
  have hlt1_l := (HL1).lt
  have hlt1_d := (HD1).lt
  refine CT.mono (spots1_ct l1 bs T.length dim r _ _ hd (by omega) (fun (i : Nat) (w : World) => ∃ (so1_1 : Option Addr) (co1_1 : Nat) (st1_1 : Option Addr) (ct1_1 : Nat) (TT1_1 : List (TE Pk)), Fr (tb s T) w0 w ∧ w7.heap.size ≤ w.heap.size ∧ Blk w b [.int .i64 dim, .int .i64 r, .slice st1_1 TT1_1.length ct1_1] 76 ∧ Tb w 1 ∧ Blk w b21 (cellsOf B21) 84 ∧ Blk w b22 [.slice so1_1 (goL dim r L i).length co1_1] 94 ∧ MapF w b23 (takenB dim L i) ∧ Blk w b24 (cellsOf Bs1) 126 ∧ Blk w bs (cellsOf BS) 76 ∧ At w l1 (RC1 .ready none) ∧ At w db1 (.deferred (some [])) ∧ OwnS w 82 2 so1_1 ((goL dim r L i).length) co1_1 ((goL dim r L i).flatMap mvC) ∧ (∀ k, ob so1_1 k → w0.heap.size ≤ k) ∧ (∀ k, ob so1_1 k → k ≠ b) ∧ (∀ k, ob so1_1 k → k ≠ 1) ∧ (∀ k, ob so1_1 k → k ≠ b21) ∧ (∀ k, ob so1_1 k → k ≠ b22) ∧ (∀ k, ob so1_1 k → k ≠ b23) ∧ (∀ k, ob so1_1 k → k ≠ b24) ∧ (∀ k, ob so1_1 k → k ≠ bs) ∧ (∀ k, ob so1_1 k → k ≠ l1) ∧ (∀ k, ob so1_1 k → k ≠ db1) ∧ Tab w 49 41 3 pkC st1_1 ct1_1 TT1_1 ∧ (∀ k, tb st1_1 TT1_1 k → (tb s T) k ∨ w0.heap.size ≤ k) ∧ (∀ k, tb st1_1 TT1_1 k → k ≠ b) ∧ (∀ k, tb st1_1 TT1_1 k → k ≠ 1) ∧ (∀ k, tb st1_1 TT1_1 k → k ≠ b21) ∧ (∀ k, tb st1_1 TT1_1 k → k ≠ b22) ∧ (∀ k, tb st1_1 TT1_1 k → k ≠ b23) ∧ (∀ k, tb st1_1 TT1_1 k → k ≠ b24) ∧ (∀ k, tb st1_1 TT1_1 k → k ≠ bs) ∧ (∀ k, tb st1_1 TT1_1 k → k ≠ l1) ∧ (∀ k, tb st1_1 TT1_1 k → k ≠ db1) ∧ (∀ k, tb st1_1 TT1_1 k → ob so1_1 k → False) ∧ (TT1_1.map (·.2.2) = L)) (fun _ => False) w7 ⟨none, 0, s, c, T, F7, (by omega), (((((((hC.blk.ext Eb21).ext Eb22).ext Eb23).ext Eb24).ne Es1 (by omega)).ext E1).ext ER1), (((((((hT.ext Eb21).ext Eb22).ext Eb23).ext Eb24).ne Es1 (by omega)).ext E1).ext ER1), ((((((B21.ext Eb22).ext Eb23).ext Eb24).ne Es1 (by omega)).ext E1).ext ER1), (by first | exact (((((B22.ext Eb23).ext Eb24).ne Es1 (by omega)).ext E1).ext ER1) | (rw [goL_t hgo, List.length_append]; exact (((((B22.ext Eb23).ext Eb24).ne Es1 (by omega)).ext E1).ext ER1)) | (rw [goL_f hgo]; exact (((((B22.ext Eb23).ext Eb24).ne Es1 (by omega)).ext E1).ext ER1))), (by first | exact ((((B23.ext Eb24).ne Es1 (by omega)).ext E1).ext ER1) | exact MapF.of ((((B23.ext Eb24).ne Es1 (by omega)).ext E1).ext ER1) (tk_nil hl) | exact MapF.of ((((B23.ext Eb24).ne Es1 (by omega)).ext E1).ext ER1) (tk_again hl h39) | exact MapF.of ((((B23.ext Eb24).ne Es1 (by omega)).ext E1).ext ER1) (tk_goes hl hne) | exact MapF.of ((((B23.ext Eb24).ne Es1 (by omega)).ext E1).ext ER1) (tk_stay hl heq h45)), ((Bs1.ext E1).ext ER1), (BS.ext ER1), HL1, HD1, (((OwnS.nil w5 82 2).ext E1).ext ER1), (fun _ h => ob_none h), (fun _ h => ob_none h), (fun _ h => ob_none h), (fun _ h => ob_none h), (fun _ h => ob_none h), (fun _ h => ob_none h), (fun _ h => ob_none h), (fun _ h => ob_none h), (fun _ h => ob_none h), (fun _ h => ob_none h), (((((((hC.tab.ext Eb21).ext Eb22).ext Eb23).ext Eb24).fr Es1 (fun k hk h => nb4 k hk h)).ext E1).ext ER1), tge, hC.ne, hT1, nb1, nb2, nb3, nb4, nb5, nb6, nb7, (fun _ _ h => ob_none h), hm⟩ (by rintro i w ⟨so1_1, co1_1, st1_1, ct1_1, TT1_1, FW1, hzW1, BL1_1, BL1_800, BL1_21, BL1_22, BL1_23, BL1_24, BL1_40, BL1_901, BL1_902, ow1L_1, ge1L_1, ne1L_1_1, ne1L_1_800, ne1L_1_21, ne1L_1_22, ne1L_1_23, ne1L_1_24, ne1L_1_40, ne1L_1_901, ne1L_1_902, tw1L_1, tg1L_1, tn1L_1_1, tn1L_1_800, tn1L_1_21, tn1L_1_22, tn1L_1_23, tn1L_1_24, tn1L_1_40, tn1L_1_901, tn1L_1_902, ts1L_1_1, hmK⟩; exact BL1_40) (by rintro i w ⟨so1_1, co1_1, st1_1, ct1_1, TT1_1, FW1, hzW1, BL1_1, BL1_800, BL1_21, BL1_22, BL1_23, BL1_24, BL1_40, BL1_901, BL1_902, ow1L_1, ge1L_1, ne1L_1_1, ne1L_1_800, ne1L_1_21, ne1L_1_22, ne1L_1_23, ne1L_1_24, ne1L_1_40, ne1L_1_901, ne1L_1_902, tw1L_1, tg1L_1, tn1L_1_1, tn1L_1_800, tn1L_1_21, tn1L_1_22, tn1L_1_23, tn1L_1_24, tn1L_1_40, tn1L_1_901, tn1L_1_902, ts1L_1_1, hmK⟩; exact (Fr.between F7 FW1 hzW1).mono (fun _ _ _ => trivial)) (by intro w h; exact h.elim) ?_) (fun _ _ h => h) ?_
  ·
    rintro i w8 w9 hi1 ⟨so1_1, co1_1, st1_1, ct1_1, TT1_1, FW1, hzW1, BL1_1, BL1_800, BL1_21, BL1_22, BL1_23, BL1_24, BL1_40, BL1_901, BL1_902, ow1L_1, ge1L_1, ne1L_1_1, ne1L_1_800, ne1L_1_21, ne1L_1_22, ne1L_1_23, ne1L_1_24, ne1L_1_40, ne1L_1_901, ne1L_1_902, tw1L_1, tg1L_1, tn1L_1_1, tn1L_1_800, tn1L_1_21, tn1L_1_22, tn1L_1_23, tn1L_1_24, tn1L_1_40, tn1L_1_901, tn1L_1_902, ts1L_1_1, hmK⟩ E1r
    have F8 := FW1.ext E1r
    have hz1r := E1r.size
    refine yd_round hRC1 (BL1_901.ext E1r) rfl ?_
    refine wk_region ?_
    refine lx_new (want rfl) (rn_alloc ze_82) ?_
    intro b25 w10 hb25 Eb25 B25 hlb25
    have F9 := F8.ext Eb25
    have hzb25 := Eb25.size
    have nb8 : ∀ k, ob so1_1 k → k ≠ b25 := fun k hk => by have := (ow1L_1).lt hk; omega
    have nb9 : ∀ k, tb st1_1 TT1_1 k → k ≠ b25 := fun k hk => by have := (tw1L_1).lt hk; omega
    refine lx_set (want rfl) sz_82 rfl rfl rfl rfl rfl B25 (Nat.le_of_ble_eq_true rfl) ?_
    intro w11 Es2 Bs2
    have F10 := F9.set Es2 (by omega)
    have hzs2 := Es2.size
    refine lx_nil ?_
    refine ⟨rfl, (((BL1_901.ext E1r).ext Eb25).ne Es2 (by omega)), fun w12 E2 HBE2 => ?_⟩
    have F11 := F10.set E2 (by omega)
    have hz2 := E2.size
    obtain ⟨l, hl⟩ : ∃ l, L[i]? = some l := ⟨_, List.getElem?_eq_getElem (by omega)⟩
    obtain ⟨hx0, hx1, hx2, hx3⟩ := hV.at hl
    have hgl := goL_len dim r L i
    refine wk_block ?_
    refine wk_seq ?_
    refine wk_region ?_
    refine lx_value (want rfl) (rn_load1Blk ag_84 ((hR1 1).trans rfl) ((((BL1_21.ext E1r).ext Eb25).ne Es2 (by omega)).ne E2 (by omega)) rfl) ?_
    refine lx_value (want rfl) (rn_loadBlk ag_82 sz_82 rfl (Bs2.ne E2 (by omega)) rfl rfl) ?_
    refine lx_call (want rfl) (ent_func cf_86 (argsC (t_pointer rfl) (argsC (t_agg rfl) args0))) (first_ct b dim r st1_1 ct1_1 TT1_1 L hmK hd (i / (dim + 1)) (i % (dim + 1)) hx2 (by omega) l (by rw [div_mod_n]; exact hl) w12 ⟨((((BL1_1.ext E1r).ext Eb25).ne Es2 (by omega)).ne E2 (by omega)), ((((tw1L_1.ext E1r).ext Eb25).fr Es2 (fun k hk h => nb9 k hk h)).fr E2 (fun k hk h => tn1L_1_901 k hk h)), tn1L_1_1⟩) ?_
    rintro _ w13 E3 rfl
    have F12 := F11.ext E3
    have hz3 := E3.size
    refine lx_value (want rfl) (mv_tuple rfl) ?_
    refine lx_value (want rfl) (rn_extract rfl rfl) ?_
    refine lx_value (want rfl) (rn_extract rfl rfl) ?_
    refine lx_split (fun h25 => ?_) (fun h25 => ?_)
    ·
      obtain ⟨p1, p2, p3, q, rfl⟩ := cons_ne (of_decide_eq_true h25)
      obtain ⟨pa, pb, hpe, hpa, hpb⟩ := can_in ((hV.buf hl).2 _ (List.mem_cons_self ..))
      injection hpe with e1 hpe
      injection hpe with e2 e3
      (try dsimp only at e1 e2)
      subst e1
      subst e2
      have hpb8 : pb < 8 := by omega
      refine lx_new (want rfl) (rn_alloc ze_41) ?_
      intro b26 w14 hb26 Eb26 B26 hlb26
      have F13 := F12.ext Eb26
      have hzb26 := Eb26.size
      have nb10 : ∀ k, ob so1_1 k → k ≠ b26 := fun k hk => by have := (ow1L_1).lt hk; omega
      have nb11 : ∀ k, tb st1_1 TT1_1 k → k ≠ b26 := fun k hk => by have := (tw1L_1).lt hk; omega
      refine lx_set (want rfl) sz_41 rfl (t_agg rfl) rfl rfl rfl B26 (Nat.le_of_ble_eq_true rfl) ?_
      intro w15 Es3 Bs3
      have F14 := F13.set Es3 (by omega)
      have hzs3 := Es3.size
      refine lx_value (want rfl) (as_bool rfl) ?_
      refine lx_nil ?_
      refine wk_seq ?_
      refine wk_seq ?_
      refine wk_region ?_
      refine lx_value (want rfl) (mv_bool rfl) ?_
      refine lx_value (want rfl) (rn_not rfl) ?_
      refine lx_nil ?_
      refine wk_cond_f rfl ?_
      refine wk_skip ?_
      refine wk_seq ?_
      refine wk_region ?_
      refine lx_value (want rfl) (rn_loadBlk ag_41 sz_41 rfl Bs3 rfl rfl) ?_
      refine lx_value (want rfl) (rn_fieldAddr fa_82_0 rfl) ?_
      refine lx_value (want rfl) (rn_load1Blk ag_3 rfl ((((Bs2.ne E2 (by omega)).ext E3).ext Eb26).ne Es3 (by omega)) rfl) ?_
      refine lx_call (want rfl) (ent_func cf_76 (argsC (t_agg rfl) (argsC (t_int rfl) args0))) (next_ct _ _ pb (i / (dim + 1)) hpb8 hx2 w15 (((((((BL1_800.ext E1r).ext Eb25).ne Es2 (by omega)).ne E2 (by omega)).ext E3).ext Eb26).ne Es3 (by omega))) ?_
      rintro _ w16 E4 rfl
      have F15 := F14.ext E4
      have hz4 := E4.size
      refine lx_value (want rfl) (mv_tuple rfl) ?_
      refine lx_value (want rfl) (rn_extract rfl rfl) ?_
      refine lx_value (want rfl) (rn_extract rfl rfl) ?_
      refine lx_split (fun h34 => ?_) (fun h34 => ?_)
      ·
        have hne : ¬ i / (dim + 1) = pb := of_decide_eq_true h34
        obtain ⟨lm, hlm, ht, hn8, hn3, _, _⟩ := nxt_buf hV hx2 hx3 hpb8 (by rw [div_mod_n]; exact hl) hne
        rw [div_mod_n] at ht
        refine lx_new (want rfl) (rn_alloc ze_82) ?_
        intro b27 w17 hb27 Eb27 B27 hlb27
        have F16 := F15.ext Eb27
        have hzb27 := Eb27.size
        have nb12 : ∀ k, ob so1_1 k → k ≠ b27 := fun k hk => by have := (ow1L_1).lt hk; omega
        have nb13 : ∀ k, tb st1_1 TT1_1 k → k ≠ b27 := fun k hk => by have := (tw1L_1).lt hk; omega
        refine lx_set (want rfl) sz_82 rfl (t_agg rfl) rfl rfl rfl B27 (Nat.le_of_ble_eq_true rfl) ?_
        intro w18 Es4 Bs4
        have F17 := F16.set Es4 (by omega)
        have hzs4 := Es4.size
        refine lx_value (want rfl) (as_bool rfl) ?_
        refine lx_nil ?_
        refine wk_seq ?_
        refine wk_seq ?_
        refine wk_region ?_
        refine lx_value (want rfl) (mv_bool rfl) ?_
        refine lx_value (want rfl) (mv_bool rfl) ?_
        refine lx_value (want_if (j := 1) (d := 36) (x := true) (y := true) rfl rfl (by decide) rfl) (rn_load1Blk ag_126 ((hR1 4).trans rfl) ((((((((((BL1_24.ext E1r).ext Eb25).ne Es2 (by omega)).ne E2 (by omega)).ext E3).ext Eb26).ne Es3 (by omega)).ext E4).ext Eb27).ne Es4 (by omega)) rfl) ?_
        refine lx_value (want_if (j := 1) (d := 36) (x := true) (y := true) rfl rfl (by decide) rfl) (rn_loadBlk ag_82 sz_82 rfl Bs4 rfl rfl) ?_
        refine lx_value (want_if (j := 1) (d := 36) (x := true) (y := true) rfl rfl (by decide) rfl) (rn_lookupB (k := (nxt (i / (dim + 1)) pb)) mt_126_82_4 rfl rfl ((((((((((BL1_23.ext E1r).ext Eb25).ne Es2 (by omega)).ne E2 (by omega)).ext E3).ext Eb26).ne Es3 (by omega)).ext E4).ext Eb27).ne Es4 (by omega))) ?_
        refine lx_split (fun h39 => ?_) (fun h39 => ?_)
        ·
          have hgo := goes_takenN hV hl hne h39
          refine lx_value (want rfl) (pick_t rfl rfl) ?_
          refine lx_nil ?_
          refine wk_cond_t rfl ?_
          refine wk_exit ?_
          refine ⟨((((((HBE2.ext E3).ext Eb26).ne Es3 (by omega)).ext E4).ext Eb27).ne Es4 (by omega)), fun w19 E5 HRE5 => ?_⟩
          have F18 := F17.set E5 (by omega)
          have hz5 := E5.size
          exact ⟨(by omega), (show Nx _ _ true from ⟨so1_1, co1_1, st1_1, ct1_1, TT1_1, F18, (by omega), (((((((((((BL1_1.ext E1r).ext Eb25).ne Es2 (by omega)).ne E2 (by omega)).ext E3).ext Eb26).ne Es3 (by omega)).ext E4).ext Eb27).ne Es4 (by omega)).ne E5 (by omega)), (((((((((((BL1_800.ext E1r).ext Eb25).ne Es2 (by omega)).ne E2 (by omega)).ext E3).ext Eb26).ne Es3 (by omega)).ext E4).ext Eb27).ne Es4 (by omega)).ne E5 (by omega)), (((((((((((BL1_21.ext E1r).ext Eb25).ne Es2 (by omega)).ne E2 (by omega)).ext E3).ext Eb26).ne Es3 (by omega)).ext E4).ext Eb27).ne Es4 (by omega)).ne E5 (by omega)), (by first | exact (((((((((((BL1_22.ext E1r).ext Eb25).ne Es2 (by omega)).ne E2 (by omega)).ext E3).ext Eb26).ne Es3 (by omega)).ext E4).ext Eb27).ne Es4 (by omega)).ne E5 (by omega)) | (rw [goL_t hgo, List.length_append]; exact (((((((((((BL1_22.ext E1r).ext Eb25).ne Es2 (by omega)).ne E2 (by omega)).ext E3).ext Eb26).ne Es3 (by omega)).ext E4).ext Eb27).ne Es4 (by omega)).ne E5 (by omega))) | (rw [goL_f hgo]; exact (((((((((((BL1_22.ext E1r).ext Eb25).ne Es2 (by omega)).ne E2 (by omega)).ext E3).ext Eb26).ne Es3 (by omega)).ext E4).ext Eb27).ne Es4 (by omega)).ne E5 (by omega)))), (by first | exact (((((((((((BL1_23.ext E1r).ext Eb25).ne Es2 (by omega)).ne E2 (by omega)).ext E3).ext Eb26).ne Es3 (by omega)).ext E4).ext Eb27).ne Es4 (by omega)).ne E5 (by omega)) | exact MapF.of (((((((((((BL1_23.ext E1r).ext Eb25).ne Es2 (by omega)).ne E2 (by omega)).ext E3).ext Eb26).ne Es3 (by omega)).ext E4).ext Eb27).ne Es4 (by omega)).ne E5 (by omega)) (tk_nil hl) | exact MapF.of (((((((((((BL1_23.ext E1r).ext Eb25).ne Es2 (by omega)).ne E2 (by omega)).ext E3).ext Eb26).ne Es3 (by omega)).ext E4).ext Eb27).ne Es4 (by omega)).ne E5 (by omega)) (tk_again hl h39) | exact MapF.of (((((((((((BL1_23.ext E1r).ext Eb25).ne Es2 (by omega)).ne E2 (by omega)).ext E3).ext Eb26).ne Es3 (by omega)).ext E4).ext Eb27).ne Es4 (by omega)).ne E5 (by omega)) (tk_goes hl hne) | exact MapF.of (((((((((((BL1_23.ext E1r).ext Eb25).ne Es2 (by omega)).ne E2 (by omega)).ext E3).ext Eb26).ne Es3 (by omega)).ext E4).ext Eb27).ne Es4 (by omega)).ne E5 (by omega)) (tk_stay hl heq h45)), (((((((((((BL1_24.ext E1r).ext Eb25).ne Es2 (by omega)).ne E2 (by omega)).ext E3).ext Eb26).ne Es3 (by omega)).ext E4).ext Eb27).ne Es4 (by omega)).ne E5 (by omega)), (((((((((((BL1_40.ext E1r).ext Eb25).ne Es2 (by omega)).ne E2 (by omega)).ext E3).ext Eb26).ne Es3 (by omega)).ext E4).ext Eb27).ne Es4 (by omega)).ne E5 (by omega)), HRE5, (((((((((((BL1_902.ext E1r).ext Eb25).ne Es2 (by omega)).ne E2 (by omega)).ext E3).ext Eb26).ne Es3 (by omega)).ext E4).ext Eb27).ne Es4 (by omega)).ne E5 (by omega)), (by first | (rw [goL_t hgo, List.length_append]; exact own_snocE (((((((((((ow1L_1.ext E1r).ext Eb25).ne Es2 (fun h => nb8 _ h rfl)).ne E2 (fun h => ne1L_1_901 _ h rfl)).ext E3).ext Eb26).ne Es3 (fun h => nb10 _ h rfl)).ext E4).ext Eb27).ne Es4 (fun h => nb12 _ h rfl)).ne E5 (fun h => ne1L_1_901 _ h rfl))) | (rw [goL_f hgo]; exact (((((((((((ow1L_1.ext E1r).ext Eb25).ne Es2 (fun h => nb8 _ h rfl)).ne E2 (fun h => ne1L_1_901 _ h rfl)).ext E3).ext Eb26).ne Es3 (fun h => nb10 _ h rfl)).ext E4).ext Eb27).ne Es4 (fun h => nb12 _ h rfl)).ne E5 (fun h => ne1L_1_901 _ h rfl)))), ge1L_1, ne1L_1_1, ne1L_1_800, ne1L_1_21, ne1L_1_22, ne1L_1_23, ne1L_1_24, ne1L_1_40, ne1L_1_901, ne1L_1_902, (((((((((((tw1L_1.ext E1r).ext Eb25).fr Es2 (fun k hk h => nb9 k hk h)).fr E2 (fun k hk h => tn1L_1_901 k hk h)).ext E3).ext Eb26).fr Es3 (fun k hk h => nb11 k hk h)).ext E4).ext Eb27).fr Es4 (fun k hk h => nb13 k hk h)).fr E5 (fun k hk h => tn1L_1_901 k hk h)), tg1L_1, tn1L_1_1, tn1L_1_800, tn1L_1_21, tn1L_1_22, tn1L_1_23, tn1L_1_24, tn1L_1_40, tn1L_1_901, tn1L_1_902, ts1L_1_1, hmK⟩)⟩
        ·
          refine lx_value (want rfl) (pick_t rfl rfl) ?_
          refine lx_nil ?_
          refine wk_cond_f rfl ?_
          refine wk_skip ?_
          refine wk_seq ?_
          refine wk_mix 8 (fun _ => .none) (by kernel_rfl) (by kernel_rfl) (fun kS G hk => by cases hk) (fun kS s y G hk => by cases hk) ?_
          simp only [List.take_succ_cons, List.take_zero, List.take_nil, List.drop_succ_cons, List.drop_zero, List.drop_nil]
          refine mx_calm rfl (want rfl) (fun u1 eu1 fu1 => rn_load1Blk ag_126 ((hR1 4).trans rfl) (((((((((((BL1_24.ext E1r).ext Eb25).ne Es2 (by omega)).ne E2 (by omega)).ext E3).ext Eb26).ne Es3 (by omega)).ext E4).ext Eb27).ne Es4 (by omega)).ext ((ext_drawn _).trans' eu1)) rfl) ?_
          refine mx_calm rfl (want rfl) (fun u2 eu2 fu2 => rn_loadBlk ag_82 sz_82 rfl (Bs4.ext ((ext_drawn _).trans' eu2)) rfl rfl) ?_
          refine mx_calm rfl (want rfl) (fun u3 eu3 fu3 => rn_load1Blk ag_126 ((hR1 4).trans rfl) (((((((((((BL1_24.ext E1r).ext Eb25).ne Es2 (by omega)).ne E2 (by omega)).ext E3).ext Eb26).ne Es3 (by omega)).ext E4).ext Eb27).ne Es4 (by omega)).ext ((ext_drawn _).trans' eu3)) rfl) ?_
          refine mx_calm rfl (want rfl) (fun u4 eu4 fu4 => rn_loadBlk ag_82 sz_82 rfl (Bs4.ext ((ext_drawn _).trans' eu4)) rfl rfl) ?_
          refine mx_calm rfl (want rfl) (fun u5 eu5 fu5 => rn_lookupB (k := (nxt (i / (dim + 1)) pb)) mt_126_82_4 rfl rfl (((((((((((BL1_23.ext E1r).ext Eb25).ne Es2 (by omega)).ne E2 (by omega)).ext E3).ext Eb26).ne Es3 (by omega)).ext E4).ext Eb27).ne Es4 (by omega)).ext ((ext_drawn _).trans' eu5))) ?_
          refine mx_split (fun h45 => ?_) (fun h45 => ?_)
          ·
            refine mx_calm rfl (want rfl) (fun u6 eu6 fu6 => mv_bool rfl) ?_
            refine mx_skip (want_if (j := 5) (d := 46) (x := false) (y := true) rfl rfl (by decide) rfl) ?_
            refine mx_calm rfl (want rfl) (fun u7 eu7 fu7 => pick_t rfl rfl) ?_
            refine mx_nil (fun w19 E6' H1 HS => ?_)
            have E6 := (ext_drawn _).trans' E6'
            have F19 := F17.ext E6
            have hz6 := E6.size
            refine lx_update (k := (nxt (i / (dim + 1)) pb)) (want rfl) mt_126_82_4 rfl rfl rfl (((((((((((BL1_23.ext E1r).ext Eb25).ne Es2 (by omega)).ne E2 (by omega)).ext E3).ext Eb26).ne Es3 (by omega)).ext E4).ext Eb27).ne Es4 (by omega)).ext E6) ?_
            intro w20 Em1 HMEm1
            have F20 := F19.set Em1 (by omega)
            have hzm1 := Em1.size
            refine lx_nil ?_
            refine wk_seq ?_
            refine wk_region ?_
            refine lx_value (want rfl) (mv_bool rfl) ?_
            refine lx_value (want rfl) (rn_not rfl) ?_
            refine lx_value (want rfl) (mv_bool rfl) ?_
            refine lx_value (want_if (j := 2) (d := 51) (x := false) (y := false) rfl rfl (by decide) rfl) (rn_load1Blk ag_84 ((hR1 1).trans rfl) ((((((((((((BL1_21.ext E1r).ext Eb25).ne Es2 (by omega)).ne E2 (by omega)).ext E3).ext Eb26).ne Es3 (by omega)).ext E4).ext Eb27).ne Es4 (by omega)).ext E6).ne Em1 (by omega)) rfl) ?_
            refine lx_value (want_if (j := 2) (d := 51) (x := false) (y := false) rfl rfl (by decide) rfl) (rn_loadBlk ag_82 sz_82 rfl ((Bs4.ext E6).ne Em1 (by omega)) rfl rfl) ?_
            refine lx_call (want_if (j := 2) (d := 51) (x := false) (y := false) rfl rfl (by decide) rfl) (ent_func cf_55 (argsC (t_pointer rfl) (argsC (t_agg rfl) args0))) (hasroom_ct b dim r st1_1 ct1_1 TT1_1 L hmK hd (nxt (i / (dim + 1)) pb).1 (nxt (i / (dim + 1)) pb).2 hn8 hn3 lm hlm w20 ⟨((((((((((((BL1_1.ext E1r).ext Eb25).ne Es2 (by omega)).ne E2 (by omega)).ext E3).ext Eb26).ne Es3 (by omega)).ext E4).ext Eb27).ne Es4 (by omega)).ext E6).ne Em1 (by omega)), ((((((((((((tw1L_1.ext E1r).ext Eb25).fr Es2 (fun k hk h => nb9 k hk h)).fr E2 (fun k hk h => tn1L_1_901 k hk h)).ext E3).ext Eb26).fr Es3 (fun k hk h => nb11 k hk h)).ext E4).ext Eb27).fr Es4 (fun k hk h => nb13 k hk h)).ext E6).fr Em1 (fun k hk h => tn1L_1_23 k hk h)), tn1L_1_1⟩) ?_
            rintro _ w21 E7 rfl
            have F21 := F20.ext E7
            have hz7 := E7.size
            refine lx_split (fun h54 => ?_) (fun h54 => ?_)
            ·
              have hgo : goesB dim r L i = true := by rw [goes_roomN hV hl hne h39 hlm ht]; exact h54
              refine lx_value (want rfl) (pick_f rfl rfl) ?_
              refine lx_nil ?_
              refine wk_cond_t rfl ?_
              refine wk_region ?_
              refine lx_value (want rfl) (rn_load1Blk ag_94 ((hR1 3).trans rfl) (((((((((((((BL1_22.ext E1r).ext Eb25).ne Es2 (by omega)).ne E2 (by omega)).ext E3).ext Eb26).ne Es3 (by omega)).ext E4).ext Eb27).ne Es4 (by omega)).ext E6).ne Em1 (by omega)).ext E7) rfl) ?_
              refine lx_value (want rfl) (rn_loadBlk ag_82 sz_82 rfl ((((((((((Bs2.ne E2 (by omega)).ext E3).ext Eb26).ne Es3 (by omega)).ext E4).ext Eb27).ne Es4 (by omega)).ext E6).ne Em1 (by omega)).ext E7) rfl rfl) ?_
              refine lx_newS (want rfl) (rn_bslice (xs := [.tmp 57]) Tryd.underlying94 sz_82 ze_82 rfl (argsC (t_agg rfl) args0) (CL.cons rfl rfl CL.nil) rfl (Nat.le_of_ble_eq_true rfl)) ?_
              intro b28 w22 hb28 Eb28 B28 hlb28
              have F22 := F21.ext Eb28
              have hzb28 := Eb28.size
              have nb14 : ∀ k, ob so1_1 k → k ≠ b28 := fun k hk => by have := (ow1L_1).lt hk; omega
              have nb15 : ∀ k, tb st1_1 TT1_1 k → k ≠ b28 := fun k hk => by have := (tw1L_1).lt hk; omega
              refine lx_append 16 (want rfl) Tryd.underlying94 ti_82 (by decide) rfl (by decide) rfl rfl ((((((((((((((ow1L_1.ext E1r).ext Eb25).ne Es2 (fun h => nb8 _ h rfl)).ne E2 (fun h => ne1L_1_901 _ h rfl)).ext E3).ext Eb26).ne Es3 (fun h => nb10 _ h rfl)).ext E4).ext Eb27).ne Es4 (fun h => nb12 _ h rfl)).ext E6).ne Em1 (fun h => ne1L_1_23 _ h rfl)).ext E7).ext Eb28) (Src.blk B28 rfl rfl) (by omega) ?_
              intro sq2 cq2 w23 AP2
              have EA2 := AP2.fr
              have ow2 := AP2.own
              have ge2 : ∀ k, ob sq2 k → w0.heap.size ≤ k := fun k hk => (AP2.blk k hk).elim (ge1L_1 k) (fun h => Nat.le_trans F22.size h)
              have ne2_1 : ∀ k, ob sq2 k → k ≠ b := fun k hk => (AP2.blk k hk).elim (ne1L_1_1 k) (fun h => by have := (((((((((((((((BL1_1.ext E1r).ext Eb25).ne Es2 (by omega)).ne E2 (by omega)).ext E3).ext Eb26).ne Es3 (by omega)).ext E4).ext Eb27).ne Es4 (by omega)).ext E6).ne Em1 (by omega)).ext E7).ext Eb28)).lt; omega)
              have ne2_800 : ∀ k, ob sq2 k → k ≠ 1 := fun k hk => (AP2.blk k hk).elim (ne1L_1_800 k) (fun h => by have := (((((((((((((((BL1_800.ext E1r).ext Eb25).ne Es2 (by omega)).ne E2 (by omega)).ext E3).ext Eb26).ne Es3 (by omega)).ext E4).ext Eb27).ne Es4 (by omega)).ext E6).ne Em1 (by omega)).ext E7).ext Eb28)).lt; omega)
              have ne2_21 : ∀ k, ob sq2 k → k ≠ b21 := fun k hk => (AP2.blk k hk).elim (ne1L_1_21 k) (fun h => by have := (((((((((((((((BL1_21.ext E1r).ext Eb25).ne Es2 (by omega)).ne E2 (by omega)).ext E3).ext Eb26).ne Es3 (by omega)).ext E4).ext Eb27).ne Es4 (by omega)).ext E6).ne Em1 (by omega)).ext E7).ext Eb28)).lt; omega)
              have ne2_22 : ∀ k, ob sq2 k → k ≠ b22 := fun k hk => (AP2.blk k hk).elim (ne1L_1_22 k) (fun h => by have := (((((((((((((((BL1_22.ext E1r).ext Eb25).ne Es2 (by omega)).ne E2 (by omega)).ext E3).ext Eb26).ne Es3 (by omega)).ext E4).ext Eb27).ne Es4 (by omega)).ext E6).ne Em1 (by omega)).ext E7).ext Eb28)).lt; omega)
              have ne2_23 : ∀ k, ob sq2 k → k ≠ b23 := fun k hk => (AP2.blk k hk).elim (ne1L_1_23 k) (fun h => by have := (((HMEm1.ext E7).ext Eb28)).lt; omega)
              have ne2_24 : ∀ k, ob sq2 k → k ≠ b24 := fun k hk => (AP2.blk k hk).elim (ne1L_1_24 k) (fun h => by have := (((((((((((((((BL1_24.ext E1r).ext Eb25).ne Es2 (by omega)).ne E2 (by omega)).ext E3).ext Eb26).ne Es3 (by omega)).ext E4).ext Eb27).ne Es4 (by omega)).ext E6).ne Em1 (by omega)).ext E7).ext Eb28)).lt; omega)
              have ne2_40 : ∀ k, ob sq2 k → k ≠ bs := fun k hk => (AP2.blk k hk).elim (ne1L_1_40 k) (fun h => by have := (((((((((((((((BL1_40.ext E1r).ext Eb25).ne Es2 (by omega)).ne E2 (by omega)).ext E3).ext Eb26).ne Es3 (by omega)).ext E4).ext Eb27).ne Es4 (by omega)).ext E6).ne Em1 (by omega)).ext E7).ext Eb28)).lt; omega)
              have ne2_901 : ∀ k, ob sq2 k → k ≠ l1 := fun k hk => (AP2.blk k hk).elim (ne1L_1_901 k) (fun h => by have := (((((((((((HBE2.ext E3).ext Eb26).ne Es3 (by omega)).ext E4).ext Eb27).ne Es4 (by omega)).ext E6).ne Em1 (by omega)).ext E7).ext Eb28)).lt; omega)
              have ne2_902 : ∀ k, ob sq2 k → k ≠ db1 := fun k hk => (AP2.blk k hk).elim (ne1L_1_902 k) (fun h => by have := (((((((((((((((BL1_902.ext E1r).ext Eb25).ne Es2 (by omega)).ne E2 (by omega)).ext E3).ext Eb26).ne Es3 (by omega)).ext E4).ext Eb27).ne Es4 (by omega)).ext E6).ne Em1 (by omega)).ext E7).ext Eb28)).lt; omega)
              have ne2_25 : ∀ k, ob sq2 k → k ≠ b25 := fun k hk => (AP2.blk k hk).elim (nb8 k) (fun h => by have := ((((((((((((Bs2.ne E2 (by omega)).ext E3).ext Eb26).ne Es3 (by omega)).ext E4).ext Eb27).ne Es4 (by omega)).ext E6).ne Em1 (by omega)).ext E7).ext Eb28)).lt; omega)
              have ne2_26 : ∀ k, ob sq2 k → k ≠ b26 := fun k hk => (AP2.blk k hk).elim (nb10 k) (fun h => by have := ((((((((Bs3.ext E4).ext Eb27).ne Es4 (by omega)).ext E6).ne Em1 (by omega)).ext E7).ext Eb28)).lt; omega)
              have ne2_27 : ∀ k, ob sq2 k → k ≠ b27 := fun k hk => (AP2.blk k hk).elim (nb12 k) (fun h => by have := (((((Bs4.ext E6).ne Em1 (by omega)).ext E7).ext Eb28)).lt; omega)
              have ne2_28 : ∀ k, ob sq2 k → k ≠ b28 := fun k hk => (AP2.blk k hk).elim (nb14 k) (fun h => by have := (B28).lt; omega)
              have F23 := F22.new EA2 ge1L_1
              have hzA2 := EA2.size
              have BA2_1 := ((((((((((((((BL1_1.ext E1r).ext Eb25).ne Es2 (by omega)).ne E2 (by omega)).ext E3).ext Eb26).ne Es3 (by omega)).ext E4).ext Eb27).ne Es4 (by omega)).ext E6).ne Em1 (by omega)).ext E7).ext Eb28).fr EA2 (fun h => ne1L_1_1 _ h rfl)
              have BA2_800 := ((((((((((((((BL1_800.ext E1r).ext Eb25).ne Es2 (by omega)).ne E2 (by omega)).ext E3).ext Eb26).ne Es3 (by omega)).ext E4).ext Eb27).ne Es4 (by omega)).ext E6).ne Em1 (by omega)).ext E7).ext Eb28).fr EA2 (fun h => ne1L_1_800 _ h rfl)
              have BA2_21 := ((((((((((((((BL1_21.ext E1r).ext Eb25).ne Es2 (by omega)).ne E2 (by omega)).ext E3).ext Eb26).ne Es3 (by omega)).ext E4).ext Eb27).ne Es4 (by omega)).ext E6).ne Em1 (by omega)).ext E7).ext Eb28).fr EA2 (fun h => ne1L_1_21 _ h rfl)
              have BA2_22 := ((((((((((((((BL1_22.ext E1r).ext Eb25).ne Es2 (by omega)).ne E2 (by omega)).ext E3).ext Eb26).ne Es3 (by omega)).ext E4).ext Eb27).ne Es4 (by omega)).ext E6).ne Em1 (by omega)).ext E7).ext Eb28).fr EA2 (fun h => ne1L_1_22 _ h rfl)
              have BA2_23 := ((HMEm1.ext E7).ext Eb28).fr EA2 (fun h => ne1L_1_23 _ h rfl)
              have BA2_24 := ((((((((((((((BL1_24.ext E1r).ext Eb25).ne Es2 (by omega)).ne E2 (by omega)).ext E3).ext Eb26).ne Es3 (by omega)).ext E4).ext Eb27).ne Es4 (by omega)).ext E6).ne Em1 (by omega)).ext E7).ext Eb28).fr EA2 (fun h => ne1L_1_24 _ h rfl)
              have BA2_40 := ((((((((((((((BL1_40.ext E1r).ext Eb25).ne Es2 (by omega)).ne E2 (by omega)).ext E3).ext Eb26).ne Es3 (by omega)).ext E4).ext Eb27).ne Es4 (by omega)).ext E6).ne Em1 (by omega)).ext E7).ext Eb28).fr EA2 (fun h => ne1L_1_40 _ h rfl)
              have BA2_901 := ((((((((((HBE2.ext E3).ext Eb26).ne Es3 (by omega)).ext E4).ext Eb27).ne Es4 (by omega)).ext E6).ne Em1 (by omega)).ext E7).ext Eb28).fr EA2 (fun h => ne1L_1_901 _ h rfl)
              have BA2_902 := ((((((((((((((BL1_902.ext E1r).ext Eb25).ne Es2 (by omega)).ne E2 (by omega)).ext E3).ext Eb26).ne Es3 (by omega)).ext E4).ext Eb27).ne Es4 (by omega)).ext E6).ne Em1 (by omega)).ext E7).ext Eb28).fr EA2 (fun h => ne1L_1_902 _ h rfl)
              have BA2_25 := (((((((((((Bs2.ne E2 (by omega)).ext E3).ext Eb26).ne Es3 (by omega)).ext E4).ext Eb27).ne Es4 (by omega)).ext E6).ne Em1 (by omega)).ext E7).ext Eb28).fr EA2 (fun h => nb8 _ h rfl)
              have BA2_26 := (((((((Bs3.ext E4).ext Eb27).ne Es4 (by omega)).ext E6).ne Em1 (by omega)).ext E7).ext Eb28).fr EA2 (fun h => nb10 _ h rfl)
              have BA2_27 := ((((Bs4.ext E6).ne Em1 (by omega)).ext E7).ext Eb28).fr EA2 (fun h => nb12 _ h rfl)
              have BA2_28 := B28.fr EA2 (fun h => nb14 _ h rfl)
              have sa2_1 : ∀ k, tb st1_1 TT1_1 k → ob sq2 k → False := fun k hk h2 => (AP2.blk k h2).elim (fun h => ts1L_1_1 k hk h) (fun h => by have := (((((((((((((((tw1L_1.ext E1r).ext Eb25).fr Es2 (fun k hk h => nb9 k hk h)).fr E2 (fun k hk h => tn1L_1_901 k hk h)).ext E3).ext Eb26).fr Es3 (fun k hk h => nb11 k hk h)).ext E4).ext Eb27).fr Es4 (fun k hk h => nb13 k hk h)).ext E6).fr Em1 (fun k hk h => tn1L_1_23 k hk h)).ext E7).ext Eb28)).lt hk; omega)
              refine lx_set (want rfl) sz_94 ((hR1 3).trans rfl) (t_slice rfl) rfl rfl rfl BA2_22 (Nat.le_of_ble_eq_true rfl) ?_
              intro w24 Es5 Bs5
              have F24 := F23.set Es5 (by omega)
              have hzs5 := Es5.size
              refine lx_nil ?_
              refine ⟨(BA2_901.ne Es5 (by omega)), fun w25 E8 HRE8 => ?_⟩
              have F25 := F24.set E8 (by omega)
              have hz8 := E8.size
              exact ⟨(by omega), (show Nx _ _ true from ⟨sq2, cq2, st1_1, ct1_1, TT1_1, F25, (by omega), ((BA2_1.ne Es5 (by omega)).ne E8 (by omega)), ((BA2_800.ne Es5 (by omega)).ne E8 (by omega)), ((BA2_21.ne Es5 (by omega)).ne E8 (by omega)), (by first | exact (Bs5.ne E8 (by omega)) | (rw [goL_t hgo, List.length_append]; exact (Bs5.ne E8 (by omega))) | (rw [goL_f hgo]; exact (Bs5.ne E8 (by omega)))), (by first | exact ((BA2_23.ne Es5 (by omega)).ne E8 (by omega)) | exact MapF.of ((BA2_23.ne Es5 (by omega)).ne E8 (by omega)) (tk_nil hl) | exact MapF.of ((BA2_23.ne Es5 (by omega)).ne E8 (by omega)) (tk_again hl h39) | exact MapF.of ((BA2_23.ne Es5 (by omega)).ne E8 (by omega)) (tk_goes hl hne) | exact MapF.of ((BA2_23.ne Es5 (by omega)).ne E8 (by omega)) (tk_stay hl heq h45)), ((BA2_24.ne Es5 (by omega)).ne E8 (by omega)), ((BA2_40.ne Es5 (by omega)).ne E8 (by omega)), HRE8, ((BA2_902.ne Es5 (by omega)).ne E8 (by omega)), (by first | (rw [goL_t hgo, List.length_append]; exact own_snocE ((ow2.ne Es5 (fun h => ne2_22 _ h rfl)).ne E8 (fun h => ne2_901 _ h rfl))) | (rw [goL_f hgo]; exact ((ow2.ne Es5 (fun h => ne2_22 _ h rfl)).ne E8 (fun h => ne2_901 _ h rfl)))), ge2, ne2_1, ne2_800, ne2_21, ne2_22, ne2_23, ne2_24, ne2_40, ne2_901, ne2_902, (((((((((((((((((tw1L_1.ext E1r).ext Eb25).fr Es2 (fun k hk h => nb9 k hk h)).fr E2 (fun k hk h => tn1L_1_901 k hk h)).ext E3).ext Eb26).fr Es3 (fun k hk h => nb11 k hk h)).ext E4).ext Eb27).fr Es4 (fun k hk h => nb13 k hk h)).ext E6).fr Em1 (fun k hk h => tn1L_1_23 k hk h)).ext E7).ext Eb28).fr EA2 (fun k hk h => ts1L_1_1 k hk h)).fr Es5 (fun k hk h => tn1L_1_22 k hk h)).fr E8 (fun k hk h => tn1L_1_901 k hk h)), tg1L_1, tn1L_1_1, tn1L_1_800, tn1L_1_21, tn1L_1_22, tn1L_1_23, tn1L_1_24, tn1L_1_40, tn1L_1_901, tn1L_1_902, sa2_1, hmK⟩)⟩
            ·
              have hgo : goesB dim r L i = false := by rw [goes_roomN hV hl hne h39 hlm ht]; exact h54
              refine lx_value (want rfl) (pick_f rfl rfl) ?_
              refine lx_nil ?_
              refine wk_cond_f rfl ?_
              refine wk_skip ?_
              refine ⟨(((((((((HBE2.ext E3).ext Eb26).ne Es3 (by omega)).ext E4).ext Eb27).ne Es4 (by omega)).ext E6).ne Em1 (by omega)).ext E7), fun w22 E9 HRE9 => ?_⟩
              have F26 := F21.set E9 (by omega)
              have hz9 := E9.size
              exact ⟨(by omega), (show Nx _ _ true from ⟨so1_1, co1_1, st1_1, ct1_1, TT1_1, F26, (by omega), ((((((((((((((BL1_1.ext E1r).ext Eb25).ne Es2 (by omega)).ne E2 (by omega)).ext E3).ext Eb26).ne Es3 (by omega)).ext E4).ext Eb27).ne Es4 (by omega)).ext E6).ne Em1 (by omega)).ext E7).ne E9 (by omega)), ((((((((((((((BL1_800.ext E1r).ext Eb25).ne Es2 (by omega)).ne E2 (by omega)).ext E3).ext Eb26).ne Es3 (by omega)).ext E4).ext Eb27).ne Es4 (by omega)).ext E6).ne Em1 (by omega)).ext E7).ne E9 (by omega)), ((((((((((((((BL1_21.ext E1r).ext Eb25).ne Es2 (by omega)).ne E2 (by omega)).ext E3).ext Eb26).ne Es3 (by omega)).ext E4).ext Eb27).ne Es4 (by omega)).ext E6).ne Em1 (by omega)).ext E7).ne E9 (by omega)), (by first | exact ((((((((((((((BL1_22.ext E1r).ext Eb25).ne Es2 (by omega)).ne E2 (by omega)).ext E3).ext Eb26).ne Es3 (by omega)).ext E4).ext Eb27).ne Es4 (by omega)).ext E6).ne Em1 (by omega)).ext E7).ne E9 (by omega)) | (rw [goL_t hgo, List.length_append]; exact ((((((((((((((BL1_22.ext E1r).ext Eb25).ne Es2 (by omega)).ne E2 (by omega)).ext E3).ext Eb26).ne Es3 (by omega)).ext E4).ext Eb27).ne Es4 (by omega)).ext E6).ne Em1 (by omega)).ext E7).ne E9 (by omega))) | (rw [goL_f hgo]; exact ((((((((((((((BL1_22.ext E1r).ext Eb25).ne Es2 (by omega)).ne E2 (by omega)).ext E3).ext Eb26).ne Es3 (by omega)).ext E4).ext Eb27).ne Es4 (by omega)).ext E6).ne Em1 (by omega)).ext E7).ne E9 (by omega)))), (by first | exact ((HMEm1.ext E7).ne E9 (by omega)) | exact MapF.of ((HMEm1.ext E7).ne E9 (by omega)) (tk_nil hl) | exact MapF.of ((HMEm1.ext E7).ne E9 (by omega)) (tk_again hl h39) | exact MapF.of ((HMEm1.ext E7).ne E9 (by omega)) (tk_goes hl hne) | exact MapF.of ((HMEm1.ext E7).ne E9 (by omega)) (tk_stay hl heq h45)), ((((((((((((((BL1_24.ext E1r).ext Eb25).ne Es2 (by omega)).ne E2 (by omega)).ext E3).ext Eb26).ne Es3 (by omega)).ext E4).ext Eb27).ne Es4 (by omega)).ext E6).ne Em1 (by omega)).ext E7).ne E9 (by omega)), ((((((((((((((BL1_40.ext E1r).ext Eb25).ne Es2 (by omega)).ne E2 (by omega)).ext E3).ext Eb26).ne Es3 (by omega)).ext E4).ext Eb27).ne Es4 (by omega)).ext E6).ne Em1 (by omega)).ext E7).ne E9 (by omega)), HRE9, ((((((((((((((BL1_902.ext E1r).ext Eb25).ne Es2 (by omega)).ne E2 (by omega)).ext E3).ext Eb26).ne Es3 (by omega)).ext E4).ext Eb27).ne Es4 (by omega)).ext E6).ne Em1 (by omega)).ext E7).ne E9 (by omega)), (by first | (rw [goL_t hgo, List.length_append]; exact own_snocE ((((((((((((((ow1L_1.ext E1r).ext Eb25).ne Es2 (fun h => nb8 _ h rfl)).ne E2 (fun h => ne1L_1_901 _ h rfl)).ext E3).ext Eb26).ne Es3 (fun h => nb10 _ h rfl)).ext E4).ext Eb27).ne Es4 (fun h => nb12 _ h rfl)).ext E6).ne Em1 (fun h => ne1L_1_23 _ h rfl)).ext E7).ne E9 (fun h => ne1L_1_901 _ h rfl))) | (rw [goL_f hgo]; exact ((((((((((((((ow1L_1.ext E1r).ext Eb25).ne Es2 (fun h => nb8 _ h rfl)).ne E2 (fun h => ne1L_1_901 _ h rfl)).ext E3).ext Eb26).ne Es3 (fun h => nb10 _ h rfl)).ext E4).ext Eb27).ne Es4 (fun h => nb12 _ h rfl)).ext E6).ne Em1 (fun h => ne1L_1_23 _ h rfl)).ext E7).ne E9 (fun h => ne1L_1_901 _ h rfl)))), ge1L_1, ne1L_1_1, ne1L_1_800, ne1L_1_21, ne1L_1_22, ne1L_1_23, ne1L_1_24, ne1L_1_40, ne1L_1_901, ne1L_1_902, ((((((((((((((tw1L_1.ext E1r).ext Eb25).fr Es2 (fun k hk h => nb9 k hk h)).fr E2 (fun k hk h => tn1L_1_901 k hk h)).ext E3).ext Eb26).fr Es3 (fun k hk h => nb11 k hk h)).ext E4).ext Eb27).fr Es4 (fun k hk h => nb13 k hk h)).ext E6).fr Em1 (fun k hk h => tn1L_1_23 k hk h)).ext E7).fr E9 (fun k hk h => tn1L_1_901 k hk h)), tg1L_1, tn1L_1_1, tn1L_1_800, tn1L_1_21, tn1L_1_22, tn1L_1_23, tn1L_1_24, tn1L_1_40, tn1L_1_901, tn1L_1_902, ts1L_1_1, hmK⟩)⟩
          ·
            refine mx_calm rfl (want rfl) (fun u8 eu8 fu8 => mv_bool rfl) ?_
            refine mx_calm rfl (want_if (j := 5) (d := 46) (x := false) (y := false) rfl rfl (by decide) rfl) (fun u9 eu9 fu9 => mv_bool rfl) ?_
            refine mx_calm rfl (want rfl) (fun u10 eu10 fu10 => pick_f rfl rfl) ?_
            refine mx_nil (fun w19 E10' H2 HS => ?_)
            have E10 := (ext_drawn _).trans' E10'
            have F27 := F17.ext E10
            have hz10 := E10.size
            refine lx_update (k := (nxt (i / (dim + 1)) pb)) (want rfl) mt_126_82_4 rfl rfl rfl (((((((((((BL1_23.ext E1r).ext Eb25).ne Es2 (by omega)).ne E2 (by omega)).ext E3).ext Eb26).ne Es3 (by omega)).ext E4).ext Eb27).ne Es4 (by omega)).ext E10) ?_
            intro w20 Em2 HMEm2
            have F28 := F27.set Em2 (by omega)
            have hzm2 := Em2.size
            refine lx_nil ?_
            refine wk_seq ?_
            refine wk_region ?_
            refine lx_value (want rfl) (mv_bool rfl) ?_
            refine lx_value (want rfl) (rn_not rfl) ?_
            refine lx_value (want rfl) (mv_bool rfl) ?_
            refine lx_value (want_if (j := 2) (d := 51) (x := false) (y := false) rfl rfl (by decide) rfl) (rn_load1Blk ag_84 ((hR1 1).trans rfl) ((((((((((((BL1_21.ext E1r).ext Eb25).ne Es2 (by omega)).ne E2 (by omega)).ext E3).ext Eb26).ne Es3 (by omega)).ext E4).ext Eb27).ne Es4 (by omega)).ext E10).ne Em2 (by omega)) rfl) ?_
            refine lx_value (want_if (j := 2) (d := 51) (x := false) (y := false) rfl rfl (by decide) rfl) (rn_loadBlk ag_82 sz_82 rfl ((Bs4.ext E10).ne Em2 (by omega)) rfl rfl) ?_
            refine lx_call (want_if (j := 2) (d := 51) (x := false) (y := false) rfl rfl (by decide) rfl) (ent_func cf_55 (argsC (t_pointer rfl) (argsC (t_agg rfl) args0))) (hasroom_ct b dim r st1_1 ct1_1 TT1_1 L hmK hd (nxt (i / (dim + 1)) pb).1 (nxt (i / (dim + 1)) pb).2 hn8 hn3 lm hlm w20 ⟨((((((((((((BL1_1.ext E1r).ext Eb25).ne Es2 (by omega)).ne E2 (by omega)).ext E3).ext Eb26).ne Es3 (by omega)).ext E4).ext Eb27).ne Es4 (by omega)).ext E10).ne Em2 (by omega)), ((((((((((((tw1L_1.ext E1r).ext Eb25).fr Es2 (fun k hk h => nb9 k hk h)).fr E2 (fun k hk h => tn1L_1_901 k hk h)).ext E3).ext Eb26).fr Es3 (fun k hk h => nb11 k hk h)).ext E4).ext Eb27).fr Es4 (fun k hk h => nb13 k hk h)).ext E10).fr Em2 (fun k hk h => tn1L_1_23 k hk h)), tn1L_1_1⟩) ?_
            rintro _ w21 E11 rfl
            have F29 := F28.ext E11
            have hz11 := E11.size
            refine lx_split (fun h54 => ?_) (fun h54 => ?_)
            ·
              have hgo : goesB dim r L i = true := by rw [goes_roomN hV hl hne h39 hlm ht]; exact h54
              refine lx_value (want rfl) (pick_f rfl rfl) ?_
              refine lx_nil ?_
              refine wk_cond_t rfl ?_
              refine wk_region ?_
              refine lx_value (want rfl) (rn_load1Blk ag_94 ((hR1 3).trans rfl) (((((((((((((BL1_22.ext E1r).ext Eb25).ne Es2 (by omega)).ne E2 (by omega)).ext E3).ext Eb26).ne Es3 (by omega)).ext E4).ext Eb27).ne Es4 (by omega)).ext E10).ne Em2 (by omega)).ext E11) rfl) ?_
              refine lx_value (want rfl) (rn_loadBlk ag_82 sz_82 rfl ((((((((((Bs2.ne E2 (by omega)).ext E3).ext Eb26).ne Es3 (by omega)).ext E4).ext Eb27).ne Es4 (by omega)).ext E10).ne Em2 (by omega)).ext E11) rfl rfl) ?_
              refine lx_newS (want rfl) (rn_bslice (xs := [.tmp 57]) Tryd.underlying94 sz_82 ze_82 rfl (argsC (t_agg rfl) args0) (CL.cons rfl rfl CL.nil) rfl (Nat.le_of_ble_eq_true rfl)) ?_
              intro b29 w22 hb29 Eb29 B29 hlb29
              have F30 := F29.ext Eb29
              have hzb29 := Eb29.size
              have nb16 : ∀ k, ob so1_1 k → k ≠ b29 := fun k hk => by have := (ow1L_1).lt hk; omega
              have nb17 : ∀ k, tb st1_1 TT1_1 k → k ≠ b29 := fun k hk => by have := (tw1L_1).lt hk; omega
              refine lx_append 16 (want rfl) Tryd.underlying94 ti_82 (by decide) rfl (by decide) rfl rfl ((((((((((((((ow1L_1.ext E1r).ext Eb25).ne Es2 (fun h => nb8 _ h rfl)).ne E2 (fun h => ne1L_1_901 _ h rfl)).ext E3).ext Eb26).ne Es3 (fun h => nb10 _ h rfl)).ext E4).ext Eb27).ne Es4 (fun h => nb12 _ h rfl)).ext E10).ne Em2 (fun h => ne1L_1_23 _ h rfl)).ext E11).ext Eb29) (Src.blk B29 rfl rfl) (by omega) ?_
              intro sq3 cq3 w23 AP3
              have EA3 := AP3.fr
              have ow3 := AP3.own
              have ge3 : ∀ k, ob sq3 k → w0.heap.size ≤ k := fun k hk => (AP3.blk k hk).elim (ge1L_1 k) (fun h => Nat.le_trans F30.size h)
              have ne3_1 : ∀ k, ob sq3 k → k ≠ b := fun k hk => (AP3.blk k hk).elim (ne1L_1_1 k) (fun h => by have := (((((((((((((((BL1_1.ext E1r).ext Eb25).ne Es2 (by omega)).ne E2 (by omega)).ext E3).ext Eb26).ne Es3 (by omega)).ext E4).ext Eb27).ne Es4 (by omega)).ext E10).ne Em2 (by omega)).ext E11).ext Eb29)).lt; omega)
              have ne3_800 : ∀ k, ob sq3 k → k ≠ 1 := fun k hk => (AP3.blk k hk).elim (ne1L_1_800 k) (fun h => by have := (((((((((((((((BL1_800.ext E1r).ext Eb25).ne Es2 (by omega)).ne E2 (by omega)).ext E3).ext Eb26).ne Es3 (by omega)).ext E4).ext Eb27).ne Es4 (by omega)).ext E10).ne Em2 (by omega)).ext E11).ext Eb29)).lt; omega)
              have ne3_21 : ∀ k, ob sq3 k → k ≠ b21 := fun k hk => (AP3.blk k hk).elim (ne1L_1_21 k) (fun h => by have := (((((((((((((((BL1_21.ext E1r).ext Eb25).ne Es2 (by omega)).ne E2 (by omega)).ext E3).ext Eb26).ne Es3 (by omega)).ext E4).ext Eb27).ne Es4 (by omega)).ext E10).ne Em2 (by omega)).ext E11).ext Eb29)).lt; omega)
              have ne3_22 : ∀ k, ob sq3 k → k ≠ b22 := fun k hk => (AP3.blk k hk).elim (ne1L_1_22 k) (fun h => by have := (((((((((((((((BL1_22.ext E1r).ext Eb25).ne Es2 (by omega)).ne E2 (by omega)).ext E3).ext Eb26).ne Es3 (by omega)).ext E4).ext Eb27).ne Es4 (by omega)).ext E10).ne Em2 (by omega)).ext E11).ext Eb29)).lt; omega)
              have ne3_23 : ∀ k, ob sq3 k → k ≠ b23 := fun k hk => (AP3.blk k hk).elim (ne1L_1_23 k) (fun h => by have := (((HMEm2.ext E11).ext Eb29)).lt; omega)
              have ne3_24 : ∀ k, ob sq3 k → k ≠ b24 := fun k hk => (AP3.blk k hk).elim (ne1L_1_24 k) (fun h => by have := (((((((((((((((BL1_24.ext E1r).ext Eb25).ne Es2 (by omega)).ne E2 (by omega)).ext E3).ext Eb26).ne Es3 (by omega)).ext E4).ext Eb27).ne Es4 (by omega)).ext E10).ne Em2 (by omega)).ext E11).ext Eb29)).lt; omega)
              have ne3_40 : ∀ k, ob sq3 k → k ≠ bs := fun k hk => (AP3.blk k hk).elim (ne1L_1_40 k) (fun h => by have := (((((((((((((((BL1_40.ext E1r).ext Eb25).ne Es2 (by omega)).ne E2 (by omega)).ext E3).ext Eb26).ne Es3 (by omega)).ext E4).ext Eb27).ne Es4 (by omega)).ext E10).ne Em2 (by omega)).ext E11).ext Eb29)).lt; omega)
              have ne3_901 : ∀ k, ob sq3 k → k ≠ l1 := fun k hk => (AP3.blk k hk).elim (ne1L_1_901 k) (fun h => by have := (((((((((((HBE2.ext E3).ext Eb26).ne Es3 (by omega)).ext E4).ext Eb27).ne Es4 (by omega)).ext E10).ne Em2 (by omega)).ext E11).ext Eb29)).lt; omega)
              have ne3_902 : ∀ k, ob sq3 k → k ≠ db1 := fun k hk => (AP3.blk k hk).elim (ne1L_1_902 k) (fun h => by have := (((((((((((((((BL1_902.ext E1r).ext Eb25).ne Es2 (by omega)).ne E2 (by omega)).ext E3).ext Eb26).ne Es3 (by omega)).ext E4).ext Eb27).ne Es4 (by omega)).ext E10).ne Em2 (by omega)).ext E11).ext Eb29)).lt; omega)
              have ne3_25 : ∀ k, ob sq3 k → k ≠ b25 := fun k hk => (AP3.blk k hk).elim (nb8 k) (fun h => by have := ((((((((((((Bs2.ne E2 (by omega)).ext E3).ext Eb26).ne Es3 (by omega)).ext E4).ext Eb27).ne Es4 (by omega)).ext E10).ne Em2 (by omega)).ext E11).ext Eb29)).lt; omega)
              have ne3_26 : ∀ k, ob sq3 k → k ≠ b26 := fun k hk => (AP3.blk k hk).elim (nb10 k) (fun h => by have := ((((((((Bs3.ext E4).ext Eb27).ne Es4 (by omega)).ext E10).ne Em2 (by omega)).ext E11).ext Eb29)).lt; omega)
              have ne3_27 : ∀ k, ob sq3 k → k ≠ b27 := fun k hk => (AP3.blk k hk).elim (nb12 k) (fun h => by have := (((((Bs4.ext E10).ne Em2 (by omega)).ext E11).ext Eb29)).lt; omega)
              have ne3_29 : ∀ k, ob sq3 k → k ≠ b29 := fun k hk => (AP3.blk k hk).elim (nb16 k) (fun h => by have := (B29).lt; omega)
              have F31 := F30.new EA3 ge1L_1
              have hzA3 := EA3.size
              have BA3_1 := ((((((((((((((BL1_1.ext E1r).ext Eb25).ne Es2 (by omega)).ne E2 (by omega)).ext E3).ext Eb26).ne Es3 (by omega)).ext E4).ext Eb27).ne Es4 (by omega)).ext E10).ne Em2 (by omega)).ext E11).ext Eb29).fr EA3 (fun h => ne1L_1_1 _ h rfl)
              have BA3_800 := ((((((((((((((BL1_800.ext E1r).ext Eb25).ne Es2 (by omega)).ne E2 (by omega)).ext E3).ext Eb26).ne Es3 (by omega)).ext E4).ext Eb27).ne Es4 (by omega)).ext E10).ne Em2 (by omega)).ext E11).ext Eb29).fr EA3 (fun h => ne1L_1_800 _ h rfl)
              have BA3_21 := ((((((((((((((BL1_21.ext E1r).ext Eb25).ne Es2 (by omega)).ne E2 (by omega)).ext E3).ext Eb26).ne Es3 (by omega)).ext E4).ext Eb27).ne Es4 (by omega)).ext E10).ne Em2 (by omega)).ext E11).ext Eb29).fr EA3 (fun h => ne1L_1_21 _ h rfl)
              have BA3_22 := ((((((((((((((BL1_22.ext E1r).ext Eb25).ne Es2 (by omega)).ne E2 (by omega)).ext E3).ext Eb26).ne Es3 (by omega)).ext E4).ext Eb27).ne Es4 (by omega)).ext E10).ne Em2 (by omega)).ext E11).ext Eb29).fr EA3 (fun h => ne1L_1_22 _ h rfl)
              have BA3_23 := ((HMEm2.ext E11).ext Eb29).fr EA3 (fun h => ne1L_1_23 _ h rfl)
              have BA3_24 := ((((((((((((((BL1_24.ext E1r).ext Eb25).ne Es2 (by omega)).ne E2 (by omega)).ext E3).ext Eb26).ne Es3 (by omega)).ext E4).ext Eb27).ne Es4 (by omega)).ext E10).ne Em2 (by omega)).ext E11).ext Eb29).fr EA3 (fun h => ne1L_1_24 _ h rfl)
              have BA3_40 := ((((((((((((((BL1_40.ext E1r).ext Eb25).ne Es2 (by omega)).ne E2 (by omega)).ext E3).ext Eb26).ne Es3 (by omega)).ext E4).ext Eb27).ne Es4 (by omega)).ext E10).ne Em2 (by omega)).ext E11).ext Eb29).fr EA3 (fun h => ne1L_1_40 _ h rfl)
              have BA3_901 := ((((((((((HBE2.ext E3).ext Eb26).ne Es3 (by omega)).ext E4).ext Eb27).ne Es4 (by omega)).ext E10).ne Em2 (by omega)).ext E11).ext Eb29).fr EA3 (fun h => ne1L_1_901 _ h rfl)
              have BA3_902 := ((((((((((((((BL1_902.ext E1r).ext Eb25).ne Es2 (by omega)).ne E2 (by omega)).ext E3).ext Eb26).ne Es3 (by omega)).ext E4).ext Eb27).ne Es4 (by omega)).ext E10).ne Em2 (by omega)).ext E11).ext Eb29).fr EA3 (fun h => ne1L_1_902 _ h rfl)
              have BA3_25 := (((((((((((Bs2.ne E2 (by omega)).ext E3).ext Eb26).ne Es3 (by omega)).ext E4).ext Eb27).ne Es4 (by omega)).ext E10).ne Em2 (by omega)).ext E11).ext Eb29).fr EA3 (fun h => nb8 _ h rfl)
              have BA3_26 := (((((((Bs3.ext E4).ext Eb27).ne Es4 (by omega)).ext E10).ne Em2 (by omega)).ext E11).ext Eb29).fr EA3 (fun h => nb10 _ h rfl)
              have BA3_27 := ((((Bs4.ext E10).ne Em2 (by omega)).ext E11).ext Eb29).fr EA3 (fun h => nb12 _ h rfl)
              have BA3_29 := B29.fr EA3 (fun h => nb16 _ h rfl)
              have sa3_1 : ∀ k, tb st1_1 TT1_1 k → ob sq3 k → False := fun k hk h2 => (AP3.blk k h2).elim (fun h => ts1L_1_1 k hk h) (fun h => by have := (((((((((((((((tw1L_1.ext E1r).ext Eb25).fr Es2 (fun k hk h => nb9 k hk h)).fr E2 (fun k hk h => tn1L_1_901 k hk h)).ext E3).ext Eb26).fr Es3 (fun k hk h => nb11 k hk h)).ext E4).ext Eb27).fr Es4 (fun k hk h => nb13 k hk h)).ext E10).fr Em2 (fun k hk h => tn1L_1_23 k hk h)).ext E11).ext Eb29)).lt hk; omega)
              refine lx_set (want rfl) sz_94 ((hR1 3).trans rfl) (t_slice rfl) rfl rfl rfl BA3_22 (Nat.le_of_ble_eq_true rfl) ?_
              intro w24 Es6 Bs6
              have F32 := F31.set Es6 (by omega)
              have hzs6 := Es6.size
              refine lx_nil ?_
              refine ⟨(BA3_901.ne Es6 (by omega)), fun w25 E12 HRE12 => ?_⟩
              have F33 := F32.set E12 (by omega)
              have hz12 := E12.size
              exact ⟨(by omega), (show Nx _ _ true from ⟨sq3, cq3, st1_1, ct1_1, TT1_1, F33, (by omega), ((BA3_1.ne Es6 (by omega)).ne E12 (by omega)), ((BA3_800.ne Es6 (by omega)).ne E12 (by omega)), ((BA3_21.ne Es6 (by omega)).ne E12 (by omega)), (by first | exact (Bs6.ne E12 (by omega)) | (rw [goL_t hgo, List.length_append]; exact (Bs6.ne E12 (by omega))) | (rw [goL_f hgo]; exact (Bs6.ne E12 (by omega)))), (by first | exact ((BA3_23.ne Es6 (by omega)).ne E12 (by omega)) | exact MapF.of ((BA3_23.ne Es6 (by omega)).ne E12 (by omega)) (tk_nil hl) | exact MapF.of ((BA3_23.ne Es6 (by omega)).ne E12 (by omega)) (tk_again hl h39) | exact MapF.of ((BA3_23.ne Es6 (by omega)).ne E12 (by omega)) (tk_goes hl hne) | exact MapF.of ((BA3_23.ne Es6 (by omega)).ne E12 (by omega)) (tk_stay hl heq h45)), ((BA3_24.ne Es6 (by omega)).ne E12 (by omega)), ((BA3_40.ne Es6 (by omega)).ne E12 (by omega)), HRE12, ((BA3_902.ne Es6 (by omega)).ne E12 (by omega)), (by first | (rw [goL_t hgo, List.length_append]; exact own_snocE ((ow3.ne Es6 (fun h => ne3_22 _ h rfl)).ne E12 (fun h => ne3_901 _ h rfl))) | (rw [goL_f hgo]; exact ((ow3.ne Es6 (fun h => ne3_22 _ h rfl)).ne E12 (fun h => ne3_901 _ h rfl)))), ge3, ne3_1, ne3_800, ne3_21, ne3_22, ne3_23, ne3_24, ne3_40, ne3_901, ne3_902, (((((((((((((((((tw1L_1.ext E1r).ext Eb25).fr Es2 (fun k hk h => nb9 k hk h)).fr E2 (fun k hk h => tn1L_1_901 k hk h)).ext E3).ext Eb26).fr Es3 (fun k hk h => nb11 k hk h)).ext E4).ext Eb27).fr Es4 (fun k hk h => nb13 k hk h)).ext E10).fr Em2 (fun k hk h => tn1L_1_23 k hk h)).ext E11).ext Eb29).fr EA3 (fun k hk h => ts1L_1_1 k hk h)).fr Es6 (fun k hk h => tn1L_1_22 k hk h)).fr E12 (fun k hk h => tn1L_1_901 k hk h)), tg1L_1, tn1L_1_1, tn1L_1_800, tn1L_1_21, tn1L_1_22, tn1L_1_23, tn1L_1_24, tn1L_1_40, tn1L_1_901, tn1L_1_902, sa3_1, hmK⟩)⟩
            ·
              have hgo : goesB dim r L i = false := by rw [goes_roomN hV hl hne h39 hlm ht]; exact h54
              refine lx_value (want rfl) (pick_f rfl rfl) ?_
              refine lx_nil ?_
              refine wk_cond_f rfl ?_
              refine wk_skip ?_
              refine ⟨(((((((((HBE2.ext E3).ext Eb26).ne Es3 (by omega)).ext E4).ext Eb27).ne Es4 (by omega)).ext E10).ne Em2 (by omega)).ext E11), fun w22 E13 HRE13 => ?_⟩
              have F34 := F29.set E13 (by omega)
              have hz13 := E13.size
              exact ⟨(by omega), (show Nx _ _ true from ⟨so1_1, co1_1, st1_1, ct1_1, TT1_1, F34, (by omega), ((((((((((((((BL1_1.ext E1r).ext Eb25).ne Es2 (by omega)).ne E2 (by omega)).ext E3).ext Eb26).ne Es3 (by omega)).ext E4).ext Eb27).ne Es4 (by omega)).ext E10).ne Em2 (by omega)).ext E11).ne E13 (by omega)), ((((((((((((((BL1_800.ext E1r).ext Eb25).ne Es2 (by omega)).ne E2 (by omega)).ext E3).ext Eb26).ne Es3 (by omega)).ext E4).ext Eb27).ne Es4 (by omega)).ext E10).ne Em2 (by omega)).ext E11).ne E13 (by omega)), ((((((((((((((BL1_21.ext E1r).ext Eb25).ne Es2 (by omega)).ne E2 (by omega)).ext E3).ext Eb26).ne Es3 (by omega)).ext E4).ext Eb27).ne Es4 (by omega)).ext E10).ne Em2 (by omega)).ext E11).ne E13 (by omega)), (by first | exact ((((((((((((((BL1_22.ext E1r).ext Eb25).ne Es2 (by omega)).ne E2 (by omega)).ext E3).ext Eb26).ne Es3 (by omega)).ext E4).ext Eb27).ne Es4 (by omega)).ext E10).ne Em2 (by omega)).ext E11).ne E13 (by omega)) | (rw [goL_t hgo, List.length_append]; exact ((((((((((((((BL1_22.ext E1r).ext Eb25).ne Es2 (by omega)).ne E2 (by omega)).ext E3).ext Eb26).ne Es3 (by omega)).ext E4).ext Eb27).ne Es4 (by omega)).ext E10).ne Em2 (by omega)).ext E11).ne E13 (by omega))) | (rw [goL_f hgo]; exact ((((((((((((((BL1_22.ext E1r).ext Eb25).ne Es2 (by omega)).ne E2 (by omega)).ext E3).ext Eb26).ne Es3 (by omega)).ext E4).ext Eb27).ne Es4 (by omega)).ext E10).ne Em2 (by omega)).ext E11).ne E13 (by omega)))), (by first | exact ((HMEm2.ext E11).ne E13 (by omega)) | exact MapF.of ((HMEm2.ext E11).ne E13 (by omega)) (tk_nil hl) | exact MapF.of ((HMEm2.ext E11).ne E13 (by omega)) (tk_again hl h39) | exact MapF.of ((HMEm2.ext E11).ne E13 (by omega)) (tk_goes hl hne) | exact MapF.of ((HMEm2.ext E11).ne E13 (by omega)) (tk_stay hl heq h45)), ((((((((((((((BL1_24.ext E1r).ext Eb25).ne Es2 (by omega)).ne E2 (by omega)).ext E3).ext Eb26).ne Es3 (by omega)).ext E4).ext Eb27).ne Es4 (by omega)).ext E10).ne Em2 (by omega)).ext E11).ne E13 (by omega)), ((((((((((((((BL1_40.ext E1r).ext Eb25).ne Es2 (by omega)).ne E2 (by omega)).ext E3).ext Eb26).ne Es3 (by omega)).ext E4).ext Eb27).ne Es4 (by omega)).ext E10).ne Em2 (by omega)).ext E11).ne E13 (by omega)), HRE13, ((((((((((((((BL1_902.ext E1r).ext Eb25).ne Es2 (by omega)).ne E2 (by omega)).ext E3).ext Eb26).ne Es3 (by omega)).ext E4).ext Eb27).ne Es4 (by omega)).ext E10).ne Em2 (by omega)).ext E11).ne E13 (by omega)), (by first | (rw [goL_t hgo, List.length_append]; exact own_snocE ((((((((((((((ow1L_1.ext E1r).ext Eb25).ne Es2 (fun h => nb8 _ h rfl)).ne E2 (fun h => ne1L_1_901 _ h rfl)).ext E3).ext Eb26).ne Es3 (fun h => nb10 _ h rfl)).ext E4).ext Eb27).ne Es4 (fun h => nb12 _ h rfl)).ext E10).ne Em2 (fun h => ne1L_1_23 _ h rfl)).ext E11).ne E13 (fun h => ne1L_1_901 _ h rfl))) | (rw [goL_f hgo]; exact ((((((((((((((ow1L_1.ext E1r).ext Eb25).ne Es2 (fun h => nb8 _ h rfl)).ne E2 (fun h => ne1L_1_901 _ h rfl)).ext E3).ext Eb26).ne Es3 (fun h => nb10 _ h rfl)).ext E4).ext Eb27).ne Es4 (fun h => nb12 _ h rfl)).ext E10).ne Em2 (fun h => ne1L_1_23 _ h rfl)).ext E11).ne E13 (fun h => ne1L_1_901 _ h rfl)))), ge1L_1, ne1L_1_1, ne1L_1_800, ne1L_1_21, ne1L_1_22, ne1L_1_23, ne1L_1_24, ne1L_1_40, ne1L_1_901, ne1L_1_902, ((((((((((((((tw1L_1.ext E1r).ext Eb25).fr Es2 (fun k hk h => nb9 k hk h)).fr E2 (fun k hk h => tn1L_1_901 k hk h)).ext E3).ext Eb26).fr Es3 (fun k hk h => nb11 k hk h)).ext E4).ext Eb27).fr Es4 (fun k hk h => nb13 k hk h)).ext E10).fr Em2 (fun k hk h => tn1L_1_23 k hk h)).ext E11).fr E13 (fun k hk h => tn1L_1_901 k hk h)), tg1L_1, tn1L_1_1, tn1L_1_800, tn1L_1_21, tn1L_1_22, tn1L_1_23, tn1L_1_24, tn1L_1_40, tn1L_1_901, tn1L_1_902, ts1L_1_1, hmK⟩)⟩
      ·
        have heq : i / (dim + 1) = pb := Decidable.not_not.1 (of_decide_eq_false h34)
        have ht := (tgt_nxt (dim := dim) (y := i % (dim + 1)) (a := (pa : Int)) (z := p3) hx3 hx2 hpb8).1 heq
        rw [div_mod_n] at ht
        have hgo := goes_outN (r := r) hl ht
        refine lx_new (want rfl) (rn_alloc ze_82) ?_
        intro b30 w17 hb30 Eb30 B30 hlb30
        have F35 := F15.ext Eb30
        have hzb30 := Eb30.size
        have nb18 : ∀ k, ob so1_1 k → k ≠ b30 := fun k hk => by have := (ow1L_1).lt hk; omega
        have nb19 : ∀ k, tb st1_1 TT1_1 k → k ≠ b30 := fun k hk => by have := (tw1L_1).lt hk; omega
        refine lx_set (want rfl) sz_82 rfl (t_agg rfl) rfl rfl rfl B30 (Nat.le_of_ble_eq_true rfl) ?_
        intro w18 Es7 Bs7
        have F36 := F35.set Es7 (by omega)
        have hzs7 := Es7.size
        refine lx_value (want rfl) (as_bool rfl) ?_
        refine lx_nil ?_
        refine wk_seq ?_
        refine wk_seq ?_
        refine wk_region ?_
        refine lx_value (want rfl) (mv_bool rfl) ?_
        refine lx_value (want rfl) (mv_bool rfl) ?_
        refine lx_skip (want_if (j := 1) (d := 36) (x := true) (y := false) rfl rfl (by decide) rfl) ?_
        refine lx_skip (want_if (j := 1) (d := 36) (x := true) (y := false) rfl rfl (by decide) rfl) ?_
        refine lx_skip (want_if (j := 1) (d := 36) (x := true) (y := false) rfl rfl (by decide) rfl) ?_
        refine lx_value (want rfl) (pick_f rfl rfl) ?_
        refine lx_nil ?_
        refine wk_cond_f rfl ?_
        refine wk_skip ?_
        refine wk_seq ?_
        refine wk_mix 8 (fun _ => .none) (by kernel_rfl) (by kernel_rfl) (fun kS G hk => by cases hk) (fun kS s y G hk => by cases hk) ?_
        simp only [List.take_succ_cons, List.take_zero, List.take_nil, List.drop_succ_cons, List.drop_zero, List.drop_nil]
        refine mx_calm rfl (want rfl) (fun u11 eu11 fu11 => rn_load1Blk ag_126 ((hR1 4).trans rfl) (((((((((((BL1_24.ext E1r).ext Eb25).ne Es2 (by omega)).ne E2 (by omega)).ext E3).ext Eb26).ne Es3 (by omega)).ext E4).ext Eb30).ne Es7 (by omega)).ext ((ext_drawn _).trans' eu11)) rfl) ?_
        refine mx_calm rfl (want rfl) (fun u12 eu12 fu12 => rn_loadBlk ag_82 sz_82 rfl (Bs7.ext ((ext_drawn _).trans' eu12)) rfl rfl) ?_
        refine mx_calm rfl (want rfl) (fun u13 eu13 fu13 => rn_load1Blk ag_126 ((hR1 4).trans rfl) (((((((((((BL1_24.ext E1r).ext Eb25).ne Es2 (by omega)).ne E2 (by omega)).ext E3).ext Eb26).ne Es3 (by omega)).ext E4).ext Eb30).ne Es7 (by omega)).ext ((ext_drawn _).trans' eu13)) rfl) ?_
        refine mx_calm rfl (want rfl) (fun u14 eu14 fu14 => rn_loadBlk ag_82 sz_82 rfl (Bs7.ext ((ext_drawn _).trans' eu14)) rfl rfl) ?_
        refine mx_calm rfl (want rfl) (fun u15 eu15 fu15 => rn_lookupB (k := (nxt (i / (dim + 1)) pb)) mt_126_82_4 rfl rfl (((((((((((BL1_23.ext E1r).ext Eb25).ne Es2 (by omega)).ne E2 (by omega)).ext E3).ext Eb26).ne Es3 (by omega)).ext E4).ext Eb30).ne Es7 (by omega)).ext ((ext_drawn _).trans' eu15))) ?_
        refine mx_split (fun h45 => ?_) (fun h45 => ?_)
        ·
          refine mx_calm rfl (want rfl) (fun u16 eu16 fu16 => mv_bool rfl) ?_
          refine mx_skip (want_if (j := 5) (d := 46) (x := false) (y := true) rfl rfl (by decide) rfl) ?_
          refine mx_calm rfl (want rfl) (fun u17 eu17 fu17 => pick_t rfl rfl) ?_
          refine mx_nil (fun w19 E14' H3 HS => ?_)
          have E14 := (ext_drawn _).trans' E14'
          have F37 := F36.ext E14
          have hz14 := E14.size
          refine lx_update (k := (nxt (i / (dim + 1)) pb)) (want rfl) mt_126_82_4 rfl rfl rfl (((((((((((BL1_23.ext E1r).ext Eb25).ne Es2 (by omega)).ne E2 (by omega)).ext E3).ext Eb26).ne Es3 (by omega)).ext E4).ext Eb30).ne Es7 (by omega)).ext E14) ?_
          intro w20 Em3 HMEm3
          have F38 := F37.set Em3 (by omega)
          have hzm3 := Em3.size
          refine lx_nil ?_
          refine wk_seq ?_
          refine wk_region ?_
          refine lx_value (want rfl) (mv_bool rfl) ?_
          refine lx_value (want rfl) (rn_not rfl) ?_
          refine lx_value (want rfl) (mv_bool rfl) ?_
          refine lx_skip (want_if (j := 2) (d := 51) (x := false) (y := true) rfl rfl (by decide) rfl) ?_
          refine lx_skip (want_if (j := 2) (d := 51) (x := false) (y := true) rfl rfl (by decide) rfl) ?_
          refine lx_skip (want_if (j := 2) (d := 51) (x := false) (y := true) rfl rfl (by decide) rfl) ?_
          refine lx_value (want rfl) (pick_t rfl rfl) ?_
          refine lx_nil ?_
          refine wk_cond_t rfl ?_
          refine wk_region ?_
          refine lx_value (want rfl) (rn_load1Blk ag_94 ((hR1 3).trans rfl) ((((((((((((BL1_22.ext E1r).ext Eb25).ne Es2 (by omega)).ne E2 (by omega)).ext E3).ext Eb26).ne Es3 (by omega)).ext E4).ext Eb30).ne Es7 (by omega)).ext E14).ne Em3 (by omega)) rfl) ?_
          refine lx_value (want rfl) (rn_loadBlk ag_82 sz_82 rfl (((((((((Bs2.ne E2 (by omega)).ext E3).ext Eb26).ne Es3 (by omega)).ext E4).ext Eb30).ne Es7 (by omega)).ext E14).ne Em3 (by omega)) rfl rfl) ?_
          refine lx_newS (want rfl) (rn_bslice (xs := [.tmp 57]) Tryd.underlying94 sz_82 ze_82 rfl (argsC (t_agg rfl) args0) (CL.cons rfl rfl CL.nil) rfl (Nat.le_of_ble_eq_true rfl)) ?_
          intro b31 w21 hb31 Eb31 B31 hlb31
          have F39 := F38.ext Eb31
          have hzb31 := Eb31.size
          have nb20 : ∀ k, ob so1_1 k → k ≠ b31 := fun k hk => by have := (ow1L_1).lt hk; omega
          have nb21 : ∀ k, tb st1_1 TT1_1 k → k ≠ b31 := fun k hk => by have := (tw1L_1).lt hk; omega
          refine lx_append 16 (want rfl) Tryd.underlying94 ti_82 (by decide) rfl (by decide) rfl rfl (((((((((((((ow1L_1.ext E1r).ext Eb25).ne Es2 (fun h => nb8 _ h rfl)).ne E2 (fun h => ne1L_1_901 _ h rfl)).ext E3).ext Eb26).ne Es3 (fun h => nb10 _ h rfl)).ext E4).ext Eb30).ne Es7 (fun h => nb18 _ h rfl)).ext E14).ne Em3 (fun h => ne1L_1_23 _ h rfl)).ext Eb31) (Src.blk B31 rfl rfl) (by omega) ?_
          intro sq4 cq4 w22 AP4
          have EA4 := AP4.fr
          have ow4 := AP4.own
          have ge4 : ∀ k, ob sq4 k → w0.heap.size ≤ k := fun k hk => (AP4.blk k hk).elim (ge1L_1 k) (fun h => Nat.le_trans F39.size h)
          have ne4_1 : ∀ k, ob sq4 k → k ≠ b := fun k hk => (AP4.blk k hk).elim (ne1L_1_1 k) (fun h => by have := ((((((((((((((BL1_1.ext E1r).ext Eb25).ne Es2 (by omega)).ne E2 (by omega)).ext E3).ext Eb26).ne Es3 (by omega)).ext E4).ext Eb30).ne Es7 (by omega)).ext E14).ne Em3 (by omega)).ext Eb31)).lt; omega)
          have ne4_800 : ∀ k, ob sq4 k → k ≠ 1 := fun k hk => (AP4.blk k hk).elim (ne1L_1_800 k) (fun h => by have := ((((((((((((((BL1_800.ext E1r).ext Eb25).ne Es2 (by omega)).ne E2 (by omega)).ext E3).ext Eb26).ne Es3 (by omega)).ext E4).ext Eb30).ne Es7 (by omega)).ext E14).ne Em3 (by omega)).ext Eb31)).lt; omega)
          have ne4_21 : ∀ k, ob sq4 k → k ≠ b21 := fun k hk => (AP4.blk k hk).elim (ne1L_1_21 k) (fun h => by have := ((((((((((((((BL1_21.ext E1r).ext Eb25).ne Es2 (by omega)).ne E2 (by omega)).ext E3).ext Eb26).ne Es3 (by omega)).ext E4).ext Eb30).ne Es7 (by omega)).ext E14).ne Em3 (by omega)).ext Eb31)).lt; omega)
          have ne4_22 : ∀ k, ob sq4 k → k ≠ b22 := fun k hk => (AP4.blk k hk).elim (ne1L_1_22 k) (fun h => by have := ((((((((((((((BL1_22.ext E1r).ext Eb25).ne Es2 (by omega)).ne E2 (by omega)).ext E3).ext Eb26).ne Es3 (by omega)).ext E4).ext Eb30).ne Es7 (by omega)).ext E14).ne Em3 (by omega)).ext Eb31)).lt; omega)
          have ne4_23 : ∀ k, ob sq4 k → k ≠ b23 := fun k hk => (AP4.blk k hk).elim (ne1L_1_23 k) (fun h => by have := ((HMEm3.ext Eb31)).lt; omega)
          have ne4_24 : ∀ k, ob sq4 k → k ≠ b24 := fun k hk => (AP4.blk k hk).elim (ne1L_1_24 k) (fun h => by have := ((((((((((((((BL1_24.ext E1r).ext Eb25).ne Es2 (by omega)).ne E2 (by omega)).ext E3).ext Eb26).ne Es3 (by omega)).ext E4).ext Eb30).ne Es7 (by omega)).ext E14).ne Em3 (by omega)).ext Eb31)).lt; omega)
          have ne4_40 : ∀ k, ob sq4 k → k ≠ bs := fun k hk => (AP4.blk k hk).elim (ne1L_1_40 k) (fun h => by have := ((((((((((((((BL1_40.ext E1r).ext Eb25).ne Es2 (by omega)).ne E2 (by omega)).ext E3).ext Eb26).ne Es3 (by omega)).ext E4).ext Eb30).ne Es7 (by omega)).ext E14).ne Em3 (by omega)).ext Eb31)).lt; omega)
          have ne4_901 : ∀ k, ob sq4 k → k ≠ l1 := fun k hk => (AP4.blk k hk).elim (ne1L_1_901 k) (fun h => by have := ((((((((((HBE2.ext E3).ext Eb26).ne Es3 (by omega)).ext E4).ext Eb30).ne Es7 (by omega)).ext E14).ne Em3 (by omega)).ext Eb31)).lt; omega)
          have ne4_902 : ∀ k, ob sq4 k → k ≠ db1 := fun k hk => (AP4.blk k hk).elim (ne1L_1_902 k) (fun h => by have := ((((((((((((((BL1_902.ext E1r).ext Eb25).ne Es2 (by omega)).ne E2 (by omega)).ext E3).ext Eb26).ne Es3 (by omega)).ext E4).ext Eb30).ne Es7 (by omega)).ext E14).ne Em3 (by omega)).ext Eb31)).lt; omega)
          have ne4_25 : ∀ k, ob sq4 k → k ≠ b25 := fun k hk => (AP4.blk k hk).elim (nb8 k) (fun h => by have := (((((((((((Bs2.ne E2 (by omega)).ext E3).ext Eb26).ne Es3 (by omega)).ext E4).ext Eb30).ne Es7 (by omega)).ext E14).ne Em3 (by omega)).ext Eb31)).lt; omega)
          have ne4_26 : ∀ k, ob sq4 k → k ≠ b26 := fun k hk => (AP4.blk k hk).elim (nb10 k) (fun h => by have := (((((((Bs3.ext E4).ext Eb30).ne Es7 (by omega)).ext E14).ne Em3 (by omega)).ext Eb31)).lt; omega)
          have ne4_30 : ∀ k, ob sq4 k → k ≠ b30 := fun k hk => (AP4.blk k hk).elim (nb18 k) (fun h => by have := ((((Bs7.ext E14).ne Em3 (by omega)).ext Eb31)).lt; omega)
          have ne4_31 : ∀ k, ob sq4 k → k ≠ b31 := fun k hk => (AP4.blk k hk).elim (nb20 k) (fun h => by have := (B31).lt; omega)
          have F40 := F39.new EA4 ge1L_1
          have hzA4 := EA4.size
          have BA4_1 := (((((((((((((BL1_1.ext E1r).ext Eb25).ne Es2 (by omega)).ne E2 (by omega)).ext E3).ext Eb26).ne Es3 (by omega)).ext E4).ext Eb30).ne Es7 (by omega)).ext E14).ne Em3 (by omega)).ext Eb31).fr EA4 (fun h => ne1L_1_1 _ h rfl)
          have BA4_800 := (((((((((((((BL1_800.ext E1r).ext Eb25).ne Es2 (by omega)).ne E2 (by omega)).ext E3).ext Eb26).ne Es3 (by omega)).ext E4).ext Eb30).ne Es7 (by omega)).ext E14).ne Em3 (by omega)).ext Eb31).fr EA4 (fun h => ne1L_1_800 _ h rfl)
          have BA4_21 := (((((((((((((BL1_21.ext E1r).ext Eb25).ne Es2 (by omega)).ne E2 (by omega)).ext E3).ext Eb26).ne Es3 (by omega)).ext E4).ext Eb30).ne Es7 (by omega)).ext E14).ne Em3 (by omega)).ext Eb31).fr EA4 (fun h => ne1L_1_21 _ h rfl)
          have BA4_22 := (((((((((((((BL1_22.ext E1r).ext Eb25).ne Es2 (by omega)).ne E2 (by omega)).ext E3).ext Eb26).ne Es3 (by omega)).ext E4).ext Eb30).ne Es7 (by omega)).ext E14).ne Em3 (by omega)).ext Eb31).fr EA4 (fun h => ne1L_1_22 _ h rfl)
          have BA4_23 := (HMEm3.ext Eb31).fr EA4 (fun h => ne1L_1_23 _ h rfl)
          have BA4_24 := (((((((((((((BL1_24.ext E1r).ext Eb25).ne Es2 (by omega)).ne E2 (by omega)).ext E3).ext Eb26).ne Es3 (by omega)).ext E4).ext Eb30).ne Es7 (by omega)).ext E14).ne Em3 (by omega)).ext Eb31).fr EA4 (fun h => ne1L_1_24 _ h rfl)
          have BA4_40 := (((((((((((((BL1_40.ext E1r).ext Eb25).ne Es2 (by omega)).ne E2 (by omega)).ext E3).ext Eb26).ne Es3 (by omega)).ext E4).ext Eb30).ne Es7 (by omega)).ext E14).ne Em3 (by omega)).ext Eb31).fr EA4 (fun h => ne1L_1_40 _ h rfl)
          have BA4_901 := (((((((((HBE2.ext E3).ext Eb26).ne Es3 (by omega)).ext E4).ext Eb30).ne Es7 (by omega)).ext E14).ne Em3 (by omega)).ext Eb31).fr EA4 (fun h => ne1L_1_901 _ h rfl)
          have BA4_902 := (((((((((((((BL1_902.ext E1r).ext Eb25).ne Es2 (by omega)).ne E2 (by omega)).ext E3).ext Eb26).ne Es3 (by omega)).ext E4).ext Eb30).ne Es7 (by omega)).ext E14).ne Em3 (by omega)).ext Eb31).fr EA4 (fun h => ne1L_1_902 _ h rfl)
          have BA4_25 := ((((((((((Bs2.ne E2 (by omega)).ext E3).ext Eb26).ne Es3 (by omega)).ext E4).ext Eb30).ne Es7 (by omega)).ext E14).ne Em3 (by omega)).ext Eb31).fr EA4 (fun h => nb8 _ h rfl)
          have BA4_26 := ((((((Bs3.ext E4).ext Eb30).ne Es7 (by omega)).ext E14).ne Em3 (by omega)).ext Eb31).fr EA4 (fun h => nb10 _ h rfl)
          have BA4_30 := (((Bs7.ext E14).ne Em3 (by omega)).ext Eb31).fr EA4 (fun h => nb18 _ h rfl)
          have BA4_31 := B31.fr EA4 (fun h => nb20 _ h rfl)
          have sa4_1 : ∀ k, tb st1_1 TT1_1 k → ob sq4 k → False := fun k hk h2 => (AP4.blk k h2).elim (fun h => ts1L_1_1 k hk h) (fun h => by have := ((((((((((((((tw1L_1.ext E1r).ext Eb25).fr Es2 (fun k hk h => nb9 k hk h)).fr E2 (fun k hk h => tn1L_1_901 k hk h)).ext E3).ext Eb26).fr Es3 (fun k hk h => nb11 k hk h)).ext E4).ext Eb30).fr Es7 (fun k hk h => nb19 k hk h)).ext E14).fr Em3 (fun k hk h => tn1L_1_23 k hk h)).ext Eb31)).lt hk; omega)
          refine lx_set (want rfl) sz_94 ((hR1 3).trans rfl) (t_slice rfl) rfl rfl rfl BA4_22 (Nat.le_of_ble_eq_true rfl) ?_
          intro w23 Es8 Bs8
          have F41 := F40.set Es8 (by omega)
          have hzs8 := Es8.size
          refine lx_nil ?_
          refine ⟨(BA4_901.ne Es8 (by omega)), fun w24 E15 HRE15 => ?_⟩
          have F42 := F41.set E15 (by omega)
          have hz15 := E15.size
          exact ⟨(by omega), (show Nx _ _ true from ⟨sq4, cq4, st1_1, ct1_1, TT1_1, F42, (by omega), ((BA4_1.ne Es8 (by omega)).ne E15 (by omega)), ((BA4_800.ne Es8 (by omega)).ne E15 (by omega)), ((BA4_21.ne Es8 (by omega)).ne E15 (by omega)), (by first | exact (Bs8.ne E15 (by omega)) | (rw [goL_t hgo, List.length_append]; exact (Bs8.ne E15 (by omega))) | (rw [goL_f hgo]; exact (Bs8.ne E15 (by omega)))), (by first | exact ((BA4_23.ne Es8 (by omega)).ne E15 (by omega)) | exact MapF.of ((BA4_23.ne Es8 (by omega)).ne E15 (by omega)) (tk_nil hl) | exact MapF.of ((BA4_23.ne Es8 (by omega)).ne E15 (by omega)) (tk_again hl h39) | exact MapF.of ((BA4_23.ne Es8 (by omega)).ne E15 (by omega)) (tk_goes hl hne) | exact MapF.of ((BA4_23.ne Es8 (by omega)).ne E15 (by omega)) (tk_stay hl heq h45)), ((BA4_24.ne Es8 (by omega)).ne E15 (by omega)), ((BA4_40.ne Es8 (by omega)).ne E15 (by omega)), HRE15, ((BA4_902.ne Es8 (by omega)).ne E15 (by omega)), (by first | (rw [goL_t hgo, List.length_append]; exact own_snocE ((ow4.ne Es8 (fun h => ne4_22 _ h rfl)).ne E15 (fun h => ne4_901 _ h rfl))) | (rw [goL_f hgo]; exact ((ow4.ne Es8 (fun h => ne4_22 _ h rfl)).ne E15 (fun h => ne4_901 _ h rfl)))), ge4, ne4_1, ne4_800, ne4_21, ne4_22, ne4_23, ne4_24, ne4_40, ne4_901, ne4_902, ((((((((((((((((tw1L_1.ext E1r).ext Eb25).fr Es2 (fun k hk h => nb9 k hk h)).fr E2 (fun k hk h => tn1L_1_901 k hk h)).ext E3).ext Eb26).fr Es3 (fun k hk h => nb11 k hk h)).ext E4).ext Eb30).fr Es7 (fun k hk h => nb19 k hk h)).ext E14).fr Em3 (fun k hk h => tn1L_1_23 k hk h)).ext Eb31).fr EA4 (fun k hk h => ts1L_1_1 k hk h)).fr Es8 (fun k hk h => tn1L_1_22 k hk h)).fr E15 (fun k hk h => tn1L_1_901 k hk h)), tg1L_1, tn1L_1_1, tn1L_1_800, tn1L_1_21, tn1L_1_22, tn1L_1_23, tn1L_1_24, tn1L_1_40, tn1L_1_901, tn1L_1_902, sa4_1, hmK⟩)⟩
        ·
          refine mx_calm rfl (want rfl) (fun u18 eu18 fu18 => mv_bool rfl) ?_
          refine mx_calm rfl (want_if (j := 5) (d := 46) (x := false) (y := false) rfl rfl (by decide) rfl) (fun u19 eu19 fu19 => mv_bool rfl) ?_
          refine mx_calm rfl (want rfl) (fun u20 eu20 fu20 => pick_f rfl rfl) ?_
          refine mx_nil (fun w19 E16' H4 HS => ?_)
          have E16 := (ext_drawn _).trans' E16'
          have F43 := F36.ext E16
          have hz16 := E16.size
          refine lx_update (k := (nxt (i / (dim + 1)) pb)) (want rfl) mt_126_82_4 rfl rfl rfl (((((((((((BL1_23.ext E1r).ext Eb25).ne Es2 (by omega)).ne E2 (by omega)).ext E3).ext Eb26).ne Es3 (by omega)).ext E4).ext Eb30).ne Es7 (by omega)).ext E16) ?_
          intro w20 Em4 HMEm4
          have F44 := F43.set Em4 (by omega)
          have hzm4 := Em4.size
          refine lx_nil ?_
          refine wk_seq ?_
          refine wk_region ?_
          refine lx_value (want rfl) (mv_bool rfl) ?_
          refine lx_value (want rfl) (rn_not rfl) ?_
          refine lx_value (want rfl) (mv_bool rfl) ?_
          refine lx_skip (want_if (j := 2) (d := 51) (x := false) (y := true) rfl rfl (by decide) rfl) ?_
          refine lx_skip (want_if (j := 2) (d := 51) (x := false) (y := true) rfl rfl (by decide) rfl) ?_
          refine lx_skip (want_if (j := 2) (d := 51) (x := false) (y := true) rfl rfl (by decide) rfl) ?_
          refine lx_value (want rfl) (pick_t rfl rfl) ?_
          refine lx_nil ?_
          refine wk_cond_t rfl ?_
          refine wk_region ?_
          refine lx_value (want rfl) (rn_load1Blk ag_94 ((hR1 3).trans rfl) ((((((((((((BL1_22.ext E1r).ext Eb25).ne Es2 (by omega)).ne E2 (by omega)).ext E3).ext Eb26).ne Es3 (by omega)).ext E4).ext Eb30).ne Es7 (by omega)).ext E16).ne Em4 (by omega)) rfl) ?_
          refine lx_value (want rfl) (rn_loadBlk ag_82 sz_82 rfl (((((((((Bs2.ne E2 (by omega)).ext E3).ext Eb26).ne Es3 (by omega)).ext E4).ext Eb30).ne Es7 (by omega)).ext E16).ne Em4 (by omega)) rfl rfl) ?_
          refine lx_newS (want rfl) (rn_bslice (xs := [.tmp 57]) Tryd.underlying94 sz_82 ze_82 rfl (argsC (t_agg rfl) args0) (CL.cons rfl rfl CL.nil) rfl (Nat.le_of_ble_eq_true rfl)) ?_
          intro b32 w21 hb32 Eb32 B32 hlb32
          have F45 := F44.ext Eb32
          have hzb32 := Eb32.size
          have nb22 : ∀ k, ob so1_1 k → k ≠ b32 := fun k hk => by have := (ow1L_1).lt hk; omega
          have nb23 : ∀ k, tb st1_1 TT1_1 k → k ≠ b32 := fun k hk => by have := (tw1L_1).lt hk; omega
          refine lx_append 16 (want rfl) Tryd.underlying94 ti_82 (by decide) rfl (by decide) rfl rfl (((((((((((((ow1L_1.ext E1r).ext Eb25).ne Es2 (fun h => nb8 _ h rfl)).ne E2 (fun h => ne1L_1_901 _ h rfl)).ext E3).ext Eb26).ne Es3 (fun h => nb10 _ h rfl)).ext E4).ext Eb30).ne Es7 (fun h => nb18 _ h rfl)).ext E16).ne Em4 (fun h => ne1L_1_23 _ h rfl)).ext Eb32) (Src.blk B32 rfl rfl) (by omega) ?_
          intro sq5 cq5 w22 AP5
          have EA5 := AP5.fr
          have ow5 := AP5.own
          have ge5 : ∀ k, ob sq5 k → w0.heap.size ≤ k := fun k hk => (AP5.blk k hk).elim (ge1L_1 k) (fun h => Nat.le_trans F45.size h)
          have ne5_1 : ∀ k, ob sq5 k → k ≠ b := fun k hk => (AP5.blk k hk).elim (ne1L_1_1 k) (fun h => by have := ((((((((((((((BL1_1.ext E1r).ext Eb25).ne Es2 (by omega)).ne E2 (by omega)).ext E3).ext Eb26).ne Es3 (by omega)).ext E4).ext Eb30).ne Es7 (by omega)).ext E16).ne Em4 (by omega)).ext Eb32)).lt; omega)
          have ne5_800 : ∀ k, ob sq5 k → k ≠ 1 := fun k hk => (AP5.blk k hk).elim (ne1L_1_800 k) (fun h => by have := ((((((((((((((BL1_800.ext E1r).ext Eb25).ne Es2 (by omega)).ne E2 (by omega)).ext E3).ext Eb26).ne Es3 (by omega)).ext E4).ext Eb30).ne Es7 (by omega)).ext E16).ne Em4 (by omega)).ext Eb32)).lt; omega)
          have ne5_21 : ∀ k, ob sq5 k → k ≠ b21 := fun k hk => (AP5.blk k hk).elim (ne1L_1_21 k) (fun h => by have := ((((((((((((((BL1_21.ext E1r).ext Eb25).ne Es2 (by omega)).ne E2 (by omega)).ext E3).ext Eb26).ne Es3 (by omega)).ext E4).ext Eb30).ne Es7 (by omega)).ext E16).ne Em4 (by omega)).ext Eb32)).lt; omega)
          have ne5_22 : ∀ k, ob sq5 k → k ≠ b22 := fun k hk => (AP5.blk k hk).elim (ne1L_1_22 k) (fun h => by have := ((((((((((((((BL1_22.ext E1r).ext Eb25).ne Es2 (by omega)).ne E2 (by omega)).ext E3).ext Eb26).ne Es3 (by omega)).ext E4).ext Eb30).ne Es7 (by omega)).ext E16).ne Em4 (by omega)).ext Eb32)).lt; omega)
          have ne5_23 : ∀ k, ob sq5 k → k ≠ b23 := fun k hk => (AP5.blk k hk).elim (ne1L_1_23 k) (fun h => by have := ((HMEm4.ext Eb32)).lt; omega)
          have ne5_24 : ∀ k, ob sq5 k → k ≠ b24 := fun k hk => (AP5.blk k hk).elim (ne1L_1_24 k) (fun h => by have := ((((((((((((((BL1_24.ext E1r).ext Eb25).ne Es2 (by omega)).ne E2 (by omega)).ext E3).ext Eb26).ne Es3 (by omega)).ext E4).ext Eb30).ne Es7 (by omega)).ext E16).ne Em4 (by omega)).ext Eb32)).lt; omega)
          have ne5_40 : ∀ k, ob sq5 k → k ≠ bs := fun k hk => (AP5.blk k hk).elim (ne1L_1_40 k) (fun h => by have := ((((((((((((((BL1_40.ext E1r).ext Eb25).ne Es2 (by omega)).ne E2 (by omega)).ext E3).ext Eb26).ne Es3 (by omega)).ext E4).ext Eb30).ne Es7 (by omega)).ext E16).ne Em4 (by omega)).ext Eb32)).lt; omega)
          have ne5_901 : ∀ k, ob sq5 k → k ≠ l1 := fun k hk => (AP5.blk k hk).elim (ne1L_1_901 k) (fun h => by have := ((((((((((HBE2.ext E3).ext Eb26).ne Es3 (by omega)).ext E4).ext Eb30).ne Es7 (by omega)).ext E16).ne Em4 (by omega)).ext Eb32)).lt; omega)
          have ne5_902 : ∀ k, ob sq5 k → k ≠ db1 := fun k hk => (AP5.blk k hk).elim (ne1L_1_902 k) (fun h => by have := ((((((((((((((BL1_902.ext E1r).ext Eb25).ne Es2 (by omega)).ne E2 (by omega)).ext E3).ext Eb26).ne Es3 (by omega)).ext E4).ext Eb30).ne Es7 (by omega)).ext E16).ne Em4 (by omega)).ext Eb32)).lt; omega)
          have ne5_25 : ∀ k, ob sq5 k → k ≠ b25 := fun k hk => (AP5.blk k hk).elim (nb8 k) (fun h => by have := (((((((((((Bs2.ne E2 (by omega)).ext E3).ext Eb26).ne Es3 (by omega)).ext E4).ext Eb30).ne Es7 (by omega)).ext E16).ne Em4 (by omega)).ext Eb32)).lt; omega)
          have ne5_26 : ∀ k, ob sq5 k → k ≠ b26 := fun k hk => (AP5.blk k hk).elim (nb10 k) (fun h => by have := (((((((Bs3.ext E4).ext Eb30).ne Es7 (by omega)).ext E16).ne Em4 (by omega)).ext Eb32)).lt; omega)
          have ne5_30 : ∀ k, ob sq5 k → k ≠ b30 := fun k hk => (AP5.blk k hk).elim (nb18 k) (fun h => by have := ((((Bs7.ext E16).ne Em4 (by omega)).ext Eb32)).lt; omega)
          have ne5_32 : ∀ k, ob sq5 k → k ≠ b32 := fun k hk => (AP5.blk k hk).elim (nb22 k) (fun h => by have := (B32).lt; omega)
          have F46 := F45.new EA5 ge1L_1
          have hzA5 := EA5.size
          have BA5_1 := (((((((((((((BL1_1.ext E1r).ext Eb25).ne Es2 (by omega)).ne E2 (by omega)).ext E3).ext Eb26).ne Es3 (by omega)).ext E4).ext Eb30).ne Es7 (by omega)).ext E16).ne Em4 (by omega)).ext Eb32).fr EA5 (fun h => ne1L_1_1 _ h rfl)
          have BA5_800 := (((((((((((((BL1_800.ext E1r).ext Eb25).ne Es2 (by omega)).ne E2 (by omega)).ext E3).ext Eb26).ne Es3 (by omega)).ext E4).ext Eb30).ne Es7 (by omega)).ext E16).ne Em4 (by omega)).ext Eb32).fr EA5 (fun h => ne1L_1_800 _ h rfl)
          have BA5_21 := (((((((((((((BL1_21.ext E1r).ext Eb25).ne Es2 (by omega)).ne E2 (by omega)).ext E3).ext Eb26).ne Es3 (by omega)).ext E4).ext Eb30).ne Es7 (by omega)).ext E16).ne Em4 (by omega)).ext Eb32).fr EA5 (fun h => ne1L_1_21 _ h rfl)
          have BA5_22 := (((((((((((((BL1_22.ext E1r).ext Eb25).ne Es2 (by omega)).ne E2 (by omega)).ext E3).ext Eb26).ne Es3 (by omega)).ext E4).ext Eb30).ne Es7 (by omega)).ext E16).ne Em4 (by omega)).ext Eb32).fr EA5 (fun h => ne1L_1_22 _ h rfl)
          have BA5_23 := (HMEm4.ext Eb32).fr EA5 (fun h => ne1L_1_23 _ h rfl)
          have BA5_24 := (((((((((((((BL1_24.ext E1r).ext Eb25).ne Es2 (by omega)).ne E2 (by omega)).ext E3).ext Eb26).ne Es3 (by omega)).ext E4).ext Eb30).ne Es7 (by omega)).ext E16).ne Em4 (by omega)).ext Eb32).fr EA5 (fun h => ne1L_1_24 _ h rfl)
          have BA5_40 := (((((((((((((BL1_40.ext E1r).ext Eb25).ne Es2 (by omega)).ne E2 (by omega)).ext E3).ext Eb26).ne Es3 (by omega)).ext E4).ext Eb30).ne Es7 (by omega)).ext E16).ne Em4 (by omega)).ext Eb32).fr EA5 (fun h => ne1L_1_40 _ h rfl)
          have BA5_901 := (((((((((HBE2.ext E3).ext Eb26).ne Es3 (by omega)).ext E4).ext Eb30).ne Es7 (by omega)).ext E16).ne Em4 (by omega)).ext Eb32).fr EA5 (fun h => ne1L_1_901 _ h rfl)
          have BA5_902 := (((((((((((((BL1_902.ext E1r).ext Eb25).ne Es2 (by omega)).ne E2 (by omega)).ext E3).ext Eb26).ne Es3 (by omega)).ext E4).ext Eb30).ne Es7 (by omega)).ext E16).ne Em4 (by omega)).ext Eb32).fr EA5 (fun h => ne1L_1_902 _ h rfl)
          have BA5_25 := ((((((((((Bs2.ne E2 (by omega)).ext E3).ext Eb26).ne Es3 (by omega)).ext E4).ext Eb30).ne Es7 (by omega)).ext E16).ne Em4 (by omega)).ext Eb32).fr EA5 (fun h => nb8 _ h rfl)
          have BA5_26 := ((((((Bs3.ext E4).ext Eb30).ne Es7 (by omega)).ext E16).ne Em4 (by omega)).ext Eb32).fr EA5 (fun h => nb10 _ h rfl)
          have BA5_30 := (((Bs7.ext E16).ne Em4 (by omega)).ext Eb32).fr EA5 (fun h => nb18 _ h rfl)
          have BA5_32 := B32.fr EA5 (fun h => nb22 _ h rfl)
          have sa5_1 : ∀ k, tb st1_1 TT1_1 k → ob sq5 k → False := fun k hk h2 => (AP5.blk k h2).elim (fun h => ts1L_1_1 k hk h) (fun h => by have := ((((((((((((((tw1L_1.ext E1r).ext Eb25).fr Es2 (fun k hk h => nb9 k hk h)).fr E2 (fun k hk h => tn1L_1_901 k hk h)).ext E3).ext Eb26).fr Es3 (fun k hk h => nb11 k hk h)).ext E4).ext Eb30).fr Es7 (fun k hk h => nb19 k hk h)).ext E16).fr Em4 (fun k hk h => tn1L_1_23 k hk h)).ext Eb32)).lt hk; omega)
          refine lx_set (want rfl) sz_94 ((hR1 3).trans rfl) (t_slice rfl) rfl rfl rfl BA5_22 (Nat.le_of_ble_eq_true rfl) ?_
          intro w23 Es9 Bs9
          have F47 := F46.set Es9 (by omega)
          have hzs9 := Es9.size
          refine lx_nil ?_
          refine ⟨(BA5_901.ne Es9 (by omega)), fun w24 E17 HRE17 => ?_⟩
          have F48 := F47.set E17 (by omega)
          have hz17 := E17.size
          exact ⟨(by omega), (show Nx _ _ true from ⟨sq5, cq5, st1_1, ct1_1, TT1_1, F48, (by omega), ((BA5_1.ne Es9 (by omega)).ne E17 (by omega)), ((BA5_800.ne Es9 (by omega)).ne E17 (by omega)), ((BA5_21.ne Es9 (by omega)).ne E17 (by omega)), (by first | exact (Bs9.ne E17 (by omega)) | (rw [goL_t hgo, List.length_append]; exact (Bs9.ne E17 (by omega))) | (rw [goL_f hgo]; exact (Bs9.ne E17 (by omega)))), (by first | exact ((BA5_23.ne Es9 (by omega)).ne E17 (by omega)) | exact MapF.of ((BA5_23.ne Es9 (by omega)).ne E17 (by omega)) (tk_nil hl) | exact MapF.of ((BA5_23.ne Es9 (by omega)).ne E17 (by omega)) (tk_again hl h39) | exact MapF.of ((BA5_23.ne Es9 (by omega)).ne E17 (by omega)) (tk_goes hl hne) | exact MapF.of ((BA5_23.ne Es9 (by omega)).ne E17 (by omega)) (tk_stay hl heq h45)), ((BA5_24.ne Es9 (by omega)).ne E17 (by omega)), ((BA5_40.ne Es9 (by omega)).ne E17 (by omega)), HRE17, ((BA5_902.ne Es9 (by omega)).ne E17 (by omega)), (by first | (rw [goL_t hgo, List.length_append]; exact own_snocE ((ow5.ne Es9 (fun h => ne5_22 _ h rfl)).ne E17 (fun h => ne5_901 _ h rfl))) | (rw [goL_f hgo]; exact ((ow5.ne Es9 (fun h => ne5_22 _ h rfl)).ne E17 (fun h => ne5_901 _ h rfl)))), ge5, ne5_1, ne5_800, ne5_21, ne5_22, ne5_23, ne5_24, ne5_40, ne5_901, ne5_902, ((((((((((((((((tw1L_1.ext E1r).ext Eb25).fr Es2 (fun k hk h => nb9 k hk h)).fr E2 (fun k hk h => tn1L_1_901 k hk h)).ext E3).ext Eb26).fr Es3 (fun k hk h => nb11 k hk h)).ext E4).ext Eb30).fr Es7 (fun k hk h => nb19 k hk h)).ext E16).fr Em4 (fun k hk h => tn1L_1_23 k hk h)).ext Eb32).fr EA5 (fun k hk h => ts1L_1_1 k hk h)).fr Es9 (fun k hk h => tn1L_1_22 k hk h)).fr E17 (fun k hk h => tn1L_1_901 k hk h)), tg1L_1, tn1L_1_1, tn1L_1_800, tn1L_1_21, tn1L_1_22, tn1L_1_23, tn1L_1_24, tn1L_1_40, tn1L_1_901, tn1L_1_902, sa5_1, hmK⟩)⟩
    ·
      obtain rfl : l = [] := Decidable.not_not.1 (of_decide_eq_false h25)
      have hgo := goes_nil (dim := dim) (r := r) hl
      refine lx_new (want rfl) (rn_alloc ze_41) ?_
      intro b33 w14 hb33 Eb33 B33 hlb33
      have F49 := F12.ext Eb33
      have hzb33 := Eb33.size
      have nb24 : ∀ k, ob so1_1 k → k ≠ b33 := fun k hk => by have := (ow1L_1).lt hk; omega
      have nb25 : ∀ k, tb st1_1 TT1_1 k → k ≠ b33 := fun k hk => by have := (tw1L_1).lt hk; omega
      refine lx_set (want rfl) sz_41 rfl (t_agg rfl) rfl rfl rfl B33 (Nat.le_of_ble_eq_true rfl) ?_
      intro w15 Es10 Bs10
      have F50 := F49.set Es10 (by omega)
      have hzs10 := Es10.size
      refine lx_value (want rfl) (as_bool rfl) ?_
      refine lx_nil ?_
      refine wk_seq ?_
      refine wk_seq ?_
      refine wk_region ?_
      refine lx_value (want rfl) (mv_bool rfl) ?_
      refine lx_value (want rfl) (rn_not rfl) ?_
      refine lx_nil ?_
      refine wk_cond_t rfl ?_
      refine wk_exit ?_
      refine ⟨(((HBE2.ext E3).ext Eb33).ne Es10 (by omega)), fun w16 E18 HRE18 => ?_⟩
      have F51 := F50.set E18 (by omega)
      have hz18 := E18.size
      exact ⟨(by omega), (show Nx _ _ true from ⟨so1_1, co1_1, st1_1, ct1_1, TT1_1, F51, (by omega), ((((((((BL1_1.ext E1r).ext Eb25).ne Es2 (by omega)).ne E2 (by omega)).ext E3).ext Eb33).ne Es10 (by omega)).ne E18 (by omega)), ((((((((BL1_800.ext E1r).ext Eb25).ne Es2 (by omega)).ne E2 (by omega)).ext E3).ext Eb33).ne Es10 (by omega)).ne E18 (by omega)), ((((((((BL1_21.ext E1r).ext Eb25).ne Es2 (by omega)).ne E2 (by omega)).ext E3).ext Eb33).ne Es10 (by omega)).ne E18 (by omega)), (by first | exact ((((((((BL1_22.ext E1r).ext Eb25).ne Es2 (by omega)).ne E2 (by omega)).ext E3).ext Eb33).ne Es10 (by omega)).ne E18 (by omega)) | (rw [goL_t hgo, List.length_append]; exact ((((((((BL1_22.ext E1r).ext Eb25).ne Es2 (by omega)).ne E2 (by omega)).ext E3).ext Eb33).ne Es10 (by omega)).ne E18 (by omega))) | (rw [goL_f hgo]; exact ((((((((BL1_22.ext E1r).ext Eb25).ne Es2 (by omega)).ne E2 (by omega)).ext E3).ext Eb33).ne Es10 (by omega)).ne E18 (by omega)))), (by first | exact ((((((((BL1_23.ext E1r).ext Eb25).ne Es2 (by omega)).ne E2 (by omega)).ext E3).ext Eb33).ne Es10 (by omega)).ne E18 (by omega)) | exact MapF.of ((((((((BL1_23.ext E1r).ext Eb25).ne Es2 (by omega)).ne E2 (by omega)).ext E3).ext Eb33).ne Es10 (by omega)).ne E18 (by omega)) (tk_nil hl) | exact MapF.of ((((((((BL1_23.ext E1r).ext Eb25).ne Es2 (by omega)).ne E2 (by omega)).ext E3).ext Eb33).ne Es10 (by omega)).ne E18 (by omega)) (tk_again hl h39) | exact MapF.of ((((((((BL1_23.ext E1r).ext Eb25).ne Es2 (by omega)).ne E2 (by omega)).ext E3).ext Eb33).ne Es10 (by omega)).ne E18 (by omega)) (tk_goes hl hne) | exact MapF.of ((((((((BL1_23.ext E1r).ext Eb25).ne Es2 (by omega)).ne E2 (by omega)).ext E3).ext Eb33).ne Es10 (by omega)).ne E18 (by omega)) (tk_stay hl heq h45)), ((((((((BL1_24.ext E1r).ext Eb25).ne Es2 (by omega)).ne E2 (by omega)).ext E3).ext Eb33).ne Es10 (by omega)).ne E18 (by omega)), ((((((((BL1_40.ext E1r).ext Eb25).ne Es2 (by omega)).ne E2 (by omega)).ext E3).ext Eb33).ne Es10 (by omega)).ne E18 (by omega)), HRE18, ((((((((BL1_902.ext E1r).ext Eb25).ne Es2 (by omega)).ne E2 (by omega)).ext E3).ext Eb33).ne Es10 (by omega)).ne E18 (by omega)), (by first | (rw [goL_t hgo, List.length_append]; exact own_snocE ((((((((ow1L_1.ext E1r).ext Eb25).ne Es2 (fun h => nb8 _ h rfl)).ne E2 (fun h => ne1L_1_901 _ h rfl)).ext E3).ext Eb33).ne Es10 (fun h => nb24 _ h rfl)).ne E18 (fun h => ne1L_1_901 _ h rfl))) | (rw [goL_f hgo]; exact ((((((((ow1L_1.ext E1r).ext Eb25).ne Es2 (fun h => nb8 _ h rfl)).ne E2 (fun h => ne1L_1_901 _ h rfl)).ext E3).ext Eb33).ne Es10 (fun h => nb24 _ h rfl)).ne E18 (fun h => ne1L_1_901 _ h rfl)))), ge1L_1, ne1L_1_1, ne1L_1_800, ne1L_1_21, ne1L_1_22, ne1L_1_23, ne1L_1_24, ne1L_1_40, ne1L_1_901, ne1L_1_902, ((((((((tw1L_1.ext E1r).ext Eb25).fr Es2 (fun k hk h => nb9 k hk h)).fr E2 (fun k hk h => tn1L_1_901 k hk h)).ext E3).ext Eb33).fr Es10 (fun k hk h => nb25 k hk h)).fr E18 (fun k hk h => tn1L_1_901 k hk h)), tg1L_1, tn1L_1_1, tn1L_1_800, tn1L_1_21, tn1L_1_22, tn1L_1_23, tn1L_1_24, tn1L_1_40, tn1L_1_901, tn1L_1_902, ts1L_1_1, hmK⟩)⟩
  ·
    rintro v w9 - (⟨w8, ⟨so1_1, co1_1, st1_1, ct1_1, TT1_1, FW1, hzW1, BL1_1, BL1_800, BL1_21, BL1_22, BL1_23, BL1_24, BL1_40, BL1_901, BL1_902, ow1L_1, ge1L_1, ne1L_1_1, ne1L_1_800, ne1L_1_21, ne1L_1_22, ne1L_1_23, ne1L_1_24, ne1L_1_40, ne1L_1_901, ne1L_1_902, tw1L_1, tg1L_1, tn1L_1_1, tn1L_1_800, tn1L_1_21, tn1L_1_22, tn1L_1_23, tn1L_1_24, tn1L_1_40, tn1L_1_901, tn1L_1_902, ts1L_1_1, hmK⟩, E1e⟩ | ⟨w8, hf, E1e⟩)
    ·
      have F52 := FW1.ext E1e
      have hz1e := E1e.size
      refine .inl ⟨(BL1_901.ext E1e), fun w10 E1f => ?_⟩
      have F53 := F52.set E1f (by omega)
      have hz1f := E1f.size
      rw [hTn] at ow1L_1 BL1_22
      refine wk_seq ?_
      refine wk_seq ?_
      refine wk_region ?_
      refine lx_value (want rfl) (rn_load1Blk ag_94 ((hR1 3).trans rfl) ((BL1_22.ext E1e).ne E1f (by omega)) rfl) ?_
      refine lx_value (want rfl) (rn_len Tryd.underlying94 rfl) ?_
      refine lx_value (want rfl) (mv_int rfl) ?_
      refine lx_nil ?_
      refine wk_block ?_
      refine wk_loopA [2, 12, 62, 63, 64, 65, 66, 67, 68, 69, 70, 71] (fun j => (tb s T) j ∨ w0.heap.size ≤ j) (fun nM ρ w => ∃ (g : Nat) (so2_1 : Option Addr) (co2_1 : Nat) (so2_2 : Option Addr) (co2_2 : Nat) (st2_1 : Option Addr) (ct2_1 : Nat) (TT2_1 : List (TE Pk)), nM = (goL dim r L L.length).length - g ∧ ρ 62 = .int .i64 g ∧ Blk w b [.int .i64 dim, .int .i64 r, .slice st2_1 TT2_1.length ct2_1] 76 ∧ Tb w 1 ∧ Blk w b21 (cellsOf BL1_21) 84 ∧ Blk w b22 (cellsOf BL1_22) 94 ∧ Blk w bs (cellsOf BL1_40) 76 ∧ At w db1 (.deferred (some [])) ∧ OwnS w 82 2 so2_1 ((goL dim r L L.length).length) co2_1 ((goL dim r L L.length).flatMap mvC) ∧ (∀ k, ob so2_1 k → w0.heap.size ≤ k) ∧ (∀ k, ob so2_1 k → k ≠ b) ∧ (∀ k, ob so2_1 k → k ≠ 1) ∧ (∀ k, ob so2_1 k → k ≠ b21) ∧ (∀ k, ob so2_1 k → k ≠ b22) ∧ (∀ k, ob so2_1 k → k ≠ bs) ∧ (∀ k, ob so2_1 k → k ≠ db1) ∧ ρ 2 = .slice so2_2 ((gst dim r L g).2.length) co2_2 ∧ OwnS w 41 3 so2_2 ((gst dim r L g).2.length) co2_2 ((gst dim r L g).2.flatMap pkC) ∧ (∀ k, ob so2_2 k → w0.heap.size ≤ k) ∧ (∀ k, ob so2_2 k → k ≠ b) ∧ (∀ k, ob so2_2 k → k ≠ 1) ∧ (∀ k, ob so2_2 k → k ≠ b21) ∧ (∀ k, ob so2_2 k → k ≠ b22) ∧ (∀ k, ob so2_2 k → k ≠ bs) ∧ (∀ k, ob so2_2 k → k ≠ db1) ∧ Tab w 49 41 3 pkC st2_1 ct2_1 TT2_1 ∧ (∀ k, tb st2_1 TT2_1 k → (tb s T) k ∨ w0.heap.size ≤ k) ∧ (∀ k, tb st2_1 TT2_1 k → k ≠ b) ∧ (∀ k, tb st2_1 TT2_1 k → k ≠ 1) ∧ (∀ k, tb st2_1 TT2_1 k → k ≠ b21) ∧ (∀ k, tb st2_1 TT2_1 k → k ≠ b22) ∧ (∀ k, tb st2_1 TT2_1 k → k ≠ bs) ∧ (∀ k, tb st2_1 TT2_1 k → k ≠ db1) ∧ (∀ k, tb st2_1 TT2_1 k → ob so2_1 k → False) ∧ (∀ k, tb st2_1 TT2_1 k → ob so2_2 k → False) ∧ (∀ k, ob so2_1 k → ob so2_2 k → False) ∧ (so2_1 = so1_1 ∧ co2_1 = co1_1) ∧ (g ≤ (goL dim r L L.length).length) ∧ (TT2_1.map (·.2.2) = (gst dim r L g).1)) _ ⟨0, so1_1, co1_1, none, 0, st1_1, ct1_1, TT1_1, rfl, rfl, ((BL1_1.ext E1e).ne E1f (by omega)), ((BL1_800.ext E1e).ne E1f (by omega)), ((BL1_21.ext E1e).ne E1f (by omega)), ((BL1_22.ext E1e).ne E1f (by omega)), ((BL1_40.ext E1e).ne E1f (by omega)), ((BL1_902.ext E1e).ne E1f (by omega)), ((ow1L_1.ext E1e).ne E1f (fun h => ne1L_1_901 _ h rfl)), ge1L_1, ne1L_1_1, ne1L_1_800, ne1L_1_21, ne1L_1_22, ne1L_1_40, ne1L_1_902, ((hR1 2).trans rfl), (OwnS.nil w10 41 3), (fun _ h => ob_none h), (fun _ h => ob_none h), (fun _ h => ob_none h), (fun _ h => ob_none h), (fun _ h => ob_none h), (fun _ h => ob_none h), (fun _ h => ob_none h), ((tw1L_1.ext E1e).fr E1f (fun k hk h => tn1L_1_901 k hk h)), tg1L_1, tn1L_1_1, tn1L_1_800, tn1L_1_21, tn1L_1_22, tn1L_1_40, tn1L_1_902, ts1L_1_1, (fun _ _ h => ob_none h), (fun _ _ h => ob_none h), ⟨rfl, rfl⟩, by omega, hmK⟩ ?_
      rintro n2 ρ2 w11 A2 EL2 ⟨g, so2_1, co2_1, so2_2, co2_2, st2_1, ct2_1, TT2_1, rfl, hs2_62, BL2_1, BL2_800, BL2_21, BL2_22, BL2_40, BL2_902, ow2L_1, ge2L_1, ne2L_1_1, ne2L_1_800, ne2L_1_21, ne2L_1_22, ne2L_1_40, ne2L_1_902, ho2_2, ow2L_2, ge2L_2, ne2L_2_1, ne2L_2_800, ne2L_2_21, ne2L_2_22, ne2L_2_40, ne2L_2_902, tw2L_1, tg2L_1, tn2L_1_1, tn2L_1_800, tn2L_1_21, tn2L_1_22, tn2L_1_40, tn2L_1_902, ts2L_1_1, ts2L_1_2, sp2L_1_2, hso, hg, hmG⟩
      have F54 := F53.wide EL2
      have hzL2 := EL2.size
      obtain ⟨hso1, hso2⟩ := hso
      have hgl := goL_len dim r L L.length
      have hgo2 := gst_out (dim := dim) (g := g) (r := r) (L := L)
      refine wk_seq ?_
      refine wk_region ?_
      refine lx_value (want rfl) (rn_lss hs2_62 (A2.at 61 rfl rfl)) ?_
      refine lx_dec (fun hlt => ?_) (fun hlt => ?_)
      ·
        obtain ⟨x, hx⟩ : ∃ x, (goL dim r L L.length)[g]? = some x := ⟨_, List.getElem?_eq_getElem (by omega)⟩
        obtain ⟨n, p1, p2, p3, q, rfl, hnl, hVG, hMn, hgs⟩ := gst_at hV hx
        have hgoS := (ow2L_1).sl (by decide) rfl (fun _ _ => rfl) (F := fun _ => True) (fun _ _ => trivial)
        obtain ⟨bg, og, hsg, _, hcg⟩ := hgoS g _ hx
        have hsg2 := hso1.symm.trans hsg
        subst hsg2
        obtain ⟨hx0, hx1, hx2, hx3⟩ := hVG.at hMn
        have hmo := movedO_len dim n (p1, p2, p3)
        refine lx_nil ?_
        refine wk_seq ?_
        refine wk_cond_t rfl ?_
        refine wk_skip ?_
        refine wk_seq ?_
        refine wk_block ?_
        refine wk_seq ?_
        refine wk_region ?_
        refine lx_value (want rfl) (rn_index _ Tryd.underlying94 sz_82 (A2.at 60 rfl rfl) hs2_62 rfl (by omega)) ?_
        refine lx_value (want rfl) (rn_load2 ag_82 sz_82 rfl (hcg 0 _ rfl) (hcg 1 _ rfl)) ?_
        refine lx_new (want rfl) (rn_alloc ze_82) ?_
        intro b34 w12 hb34 Eb34 B34 hlb34
        have F55 := F54.ext Eb34
        have hzb34 := Eb34.size
        have nb26 : ∀ k, ob so2_1 k → k ≠ b34 := fun k hk => by have := (ow2L_1).lt hk; omega
        have nb27 : ∀ k, ob so2_2 k → k ≠ b34 := fun k hk => by have := (ow2L_2).lt hk; omega
        have nb28 : ∀ k, tb st2_1 TT2_1 k → k ≠ b34 := fun k hk => by have := (tw2L_1).lt hk; omega
        refine lx_set (want rfl) sz_82 rfl (t_agg rfl) rfl rfl rfl B34 (Nat.le_of_ble_eq_true rfl) ?_
        intro w13 Es11 Bs11
        have F56 := F55.set Es11 (by omega)
        have hzs11 := Es11.size
        refine lx_nil ?_
        refine wk_region ?_
        refine lx_value (want rfl) (mv_slice ho2_2) ?_
        refine lx_value (want rfl) (rn_load1Blk ag_84 (A2.at 1 rfl ((hR1 1).trans rfl)) ((BL2_21.ext Eb34).ne Es11 (by omega)) rfl) ?_
        refine lx_value (want rfl) (rn_loadBlk ag_82 sz_82 rfl Bs11 rfl rfl) ?_
        refine lx_call (want rfl) (ent_func cf_62 (argsC (t_pointer rfl) (argsC (t_agg rfl) args0))) (moveN (move_ct b dim r st2_1 ct2_1 TT2_1 (gst dim r L g).1 hmG hVG (n / (dim + 1)) (n % (dim + 1)) hx2 hx3 p1 p2 p3 q (by rw [div_mod_n]; exact hMn) w13 ⟨((BL2_1.ext Eb34).ne Es11 (by omega)), ((tw2L_1.ext Eb34).fr Es11 (fun k hk h => nb28 k hk h)), tn2L_1_1⟩ ((BL2_800.ext Eb34).ne Es11 (by omega)) tn2L_1_800)) ?_
        rintro _ w14 E19 ⟨T2, so, co, rfl, hC2, hm2, hG2, hP2⟩
        have F57 := F56.new' E19 (fun k h => tg2L_1 k h)
        have hz19 := E19.size
        have tg1 : ∀ k, tb st2_1 T2 k → (tb s T) k ∨ w0.heap.size ≤ k := fun k hk => (hG2 k hk).elim (tg2L_1 k) (fun h => .inr (by omega))
        have tn1_1 : ∀ k, tb st2_1 T2 k → k ≠ b := fun k hk => (hG2 k hk).elim (tn2L_1_1 k) (fun h => by have := (hC2.blk).lt; omega)
        have tn1_800 : ∀ k, tb st2_1 T2 k → k ≠ 1 := fun k hk => (hG2 k hk).elim (tn2L_1_800 k) (fun h => by have := (BL2_800).lt; omega)
        have tn1_21 : ∀ k, tb st2_1 T2 k → k ≠ b21 := fun k hk => (hG2 k hk).elim (tn2L_1_21 k) (fun h => by have := (BL2_21).lt; omega)
        have tn1_22 : ∀ k, tb st2_1 T2 k → k ≠ b22 := fun k hk => (hG2 k hk).elim (tn2L_1_22 k) (fun h => by have := (BL2_22).lt; omega)
        have tn1_40 : ∀ k, tb st2_1 T2 k → k ≠ bs := fun k hk => (hG2 k hk).elim (tn2L_1_40 k) (fun h => by have := (BL2_40).lt; omega)
        have tn1_902 : ∀ k, tb st2_1 T2 k → k ≠ db1 := fun k hk => (hG2 k hk).elim (tn2L_1_902 k) (fun h => by have := (BL2_902).lt; omega)
        have tn1_34 : ∀ k, tb st2_1 T2 k → k ≠ b34 := fun k hk => (hG2 k hk).elim (nb28 k) (fun h => by have := (Bs11).lt; omega)
        have ts1_1 : ∀ k, tb st2_1 T2 k → ob so2_1 k → False := fun k hk h2 => (hG2 k hk).elim (fun h => ts2L_1_1 k h h2) (fun h => by have := (ow2L_1).lt h2; omega)
        have ts1_2 : ∀ k, tb st2_1 T2 k → ob so2_2 k → False := fun k hk h2 => (hG2 k hk).elim (fun h => ts2L_1_2 k h h2) (fun h => by have := (ow2L_2).lt h2; omega)
        refine lx_append 24 (want rfl) Tryd.underlying49 ti_41 (by decide) rfl (by decide) rfl rfl (((ow2L_2.ext Eb34).ne Es11 (fun h => nb27 _ h rfl)).fr E19 (fun k h1 h => ts2L_1_2 k h h1)) (hP2.src (fun _ _ => rfl) (fun _ _ u hu => pk_one hu) (by decide)) (by omega) ?_
        intro sq7 cq7 w15 AP7
        have EA7 := AP7.fr
        have ow7 := AP7.own
        have ge7 : ∀ k, ob sq7 k → w0.heap.size ≤ k := fun k hk => (AP7.blk k hk).elim (ge2L_2 k) (fun h => Nat.le_trans F57.size h)
        have ne7_1 : ∀ k, ob sq7 k → k ≠ b := fun k hk => (AP7.blk k hk).elim (ne2L_2_1 k) (fun h => by have := (hC2.blk).lt; omega)
        have ne7_800 : ∀ k, ob sq7 k → k ≠ 1 := fun k hk => (AP7.blk k hk).elim (ne2L_2_800 k) (fun h => by have := ((((BL2_800.ext Eb34).ne Es11 (by omega)).fr E19 (fun h => tn2L_1_800 _ h rfl))).lt; omega)
        have ne7_21 : ∀ k, ob sq7 k → k ≠ b21 := fun k hk => (AP7.blk k hk).elim (ne2L_2_21 k) (fun h => by have := ((((BL2_21.ext Eb34).ne Es11 (by omega)).fr E19 (fun h => tn2L_1_21 _ h rfl))).lt; omega)
        have ne7_22 : ∀ k, ob sq7 k → k ≠ b22 := fun k hk => (AP7.blk k hk).elim (ne2L_2_22 k) (fun h => by have := ((((BL2_22.ext Eb34).ne Es11 (by omega)).fr E19 (fun h => tn2L_1_22 _ h rfl))).lt; omega)
        have ne7_40 : ∀ k, ob sq7 k → k ≠ bs := fun k hk => (AP7.blk k hk).elim (ne2L_2_40 k) (fun h => by have := ((((BL2_40.ext Eb34).ne Es11 (by omega)).fr E19 (fun h => tn2L_1_40 _ h rfl))).lt; omega)
        have ne7_902 : ∀ k, ob sq7 k → k ≠ db1 := fun k hk => (AP7.blk k hk).elim (ne2L_2_902 k) (fun h => by have := ((((BL2_902.ext Eb34).ne Es11 (by omega)).fr E19 (fun h => tn2L_1_902 _ h rfl))).lt; omega)
        have ne7_34 : ∀ k, ob sq7 k → k ≠ b34 := fun k hk => (AP7.blk k hk).elim (nb27 k) (fun h => by have := ((Bs11.fr E19 (fun h => nb28 _ h rfl))).lt; omega)
        have sp7_1 : ∀ k, ob sq7 k → ob so2_1 k → False := fun k hk h2 => (AP7.blk k hk).elim (fun h => (fun k h1 h2 => sp2L_1_2 k h2 h1) k h h2) (fun h => by have := ((((ow2L_1.ext Eb34).ne Es11 (fun h => nb26 _ h rfl)).fr E19 (fun k h1 h => ts2L_1_1 k h h1))).lt h2; omega)
        have F58 := F57.new EA7 ge2L_2
        have hzA7 := EA7.size
        have BA7_1 := hC2.blk.fr EA7 (fun h => ne2L_2_1 _ h rfl)
        have BA7_800 := (((BL2_800.ext Eb34).ne Es11 (by omega)).fr E19 (fun h => tn2L_1_800 _ h rfl)).fr EA7 (fun h => ne2L_2_800 _ h rfl)
        have BA7_21 := (((BL2_21.ext Eb34).ne Es11 (by omega)).fr E19 (fun h => tn2L_1_21 _ h rfl)).fr EA7 (fun h => ne2L_2_21 _ h rfl)
        have BA7_22 := (((BL2_22.ext Eb34).ne Es11 (by omega)).fr E19 (fun h => tn2L_1_22 _ h rfl)).fr EA7 (fun h => ne2L_2_22 _ h rfl)
        have BA7_40 := (((BL2_40.ext Eb34).ne Es11 (by omega)).fr E19 (fun h => tn2L_1_40 _ h rfl)).fr EA7 (fun h => ne2L_2_40 _ h rfl)
        have BA7_902 := (((BL2_902.ext Eb34).ne Es11 (by omega)).fr E19 (fun h => tn2L_1_902 _ h rfl)).fr EA7 (fun h => ne2L_2_902 _ h rfl)
        have BA7_34 := (Bs11.fr E19 (fun h => nb28 _ h rfl)).fr EA7 (fun h => nb27 _ h rfl)
        have oA7_1 := (((ow2L_1.ext Eb34).ne Es11 (fun h => nb26 _ h rfl)).fr E19 (fun k h1 h => ts2L_1_1 k h h1)).fr EA7 (fun k h1 h2 => (fun k h1 h2 => sp2L_1_2 k h2 h1) k h2 h1)
        have sr7_1 : ∀ k, ob so2_1 k → ob sq7 k → False := fun k h1 h2 => sp7_1 k h2 h1
        have sa7_1 : ∀ k, tb st2_1 T2 k → ob sq7 k → False := fun k hk h2 => (AP7.blk k h2).elim (fun h => ts1_2 k hk h) (fun h => by have := (hC2.tab).lt hk; omega)
        refine lx_value (want rfl) (as_slice rfl) ?_
        refine lx_nil ?_
        refine wk_region ?_
        refine lx_value (want rfl) (rn_add hs2_62 rfl (by omega)) ?_
        refine lx_value (want rfl) (mv_int rfl) ?_
        refine lx_nil ?_
        exact ⟨rfl, (((((((((((((A2.up rfl _).up rfl _).up rfl _).up rfl _).none _).up rfl _).up rfl _).up rfl _).up rfl _).up rfl _).up rfl _).up rfl _).up rfl _), Fr.between F53 F58 (by omega), _, (by omega), g + 1, so2_1, co2_1, sq7, cq7, st2_1, ct2_1, T2, rfl, rfl, BA7_1, BA7_800, BA7_21, BA7_22, BA7_40, BA7_902, oA7_1, ge2L_1, ne2L_1_1, ne2L_1_800, ne2L_1_21, ne2L_1_22, ne2L_1_40, ne2L_1_902, (by rw [hgs, List.length_append]; exact rfl), (by rw [hgs, List.length_append]; exact own_app ow7), ge7, ne7_1, ne7_800, ne7_21, ne7_22, ne7_40, ne7_902, (hC2.tab.fr EA7 (fun k hk h => ts1_2 k hk h)), tg1, tn1_1, tn1_800, tn1_21, tn1_22, tn1_40, tn1_902, ts1_1, sa7_1, sr7_1, ⟨hso1, hso2⟩, by omega, (by rw [hgs]; exact hm2)⟩
      ·
        refine lx_nil ?_
        refine wk_seq ?_
        refine wk_cond_f rfl ?_
        refine wk_exit ?_
        refine wk_seq ?_
        refine wk_region ?_
        refine lx_value (want rfl) (mv_slice ho2_2) ?_
        refine lx_value (want rfl) (as_slice rfl) ?_
        refine lx_nil ?_
        refine wk_ret ?_
        refine retM1 BL2_902 (fun w12 E20 => ?_)
        have F59 := F54.set E20 (by omega)
        have hz20 := E20.size
        refine retR1 Tryd.results68 (.tmp (t_slice rfl)) F59 ?_
        exact roundp_ok hV hlt (ow2L_2.ne E20 (fun h => ne2L_2_902 _ h rfl)) rfl ge2L_2 ⟨(BL2_1.ne E20 (by omega)), (tw2L_1.fr E20 (fun k hk h => tn2L_1_902 k hk h)), tn2L_1_1⟩ hmG tg2L_1
    ·
      exact hf.elim

end Go.Proofs.YtlfclnkoimfhmaaDoor

/- What functions of the cube compute: move, ccan, able, way1, isswitch. -/
import Derived.Test.YtlfclnkoimfhmaaDoorFacts
import Derived.Test.YtlfclnkoimfhmaaDoorPre
import Derived.Test.YtlfclnkoimfhmaaDoorWalk2
import Derived.Test.YtlfclnkoimfhmaaDoorWalk3
import Derived.Test.YtlfclnkoimfhmaaDoorWalk4
set_option linter.unusedVariables false
set_option linter.unusedSimpArgs false
namespace Go.Proofs.YtlfclnkoimfhmaaDoor
open Go Go.RowKit Go.Mix Go.Eng
theorem move_ct (b dim : Nat) (r : Int) (s : Option Addr) (c : Nat) (T : List (TE Pk)) (L : List (List Pk)) (hm : T.map (·.2.2) = L) (hV : Valid dim r L) (x y : Nat) (hx : x < 8) (hy : y ≤ dim) (p1 p2 p3 : Int) (q : List Pk) (hl : L[x * (dim + 1) + y]? = some ((p1, p2, p3) :: q)) (w0 : World) (hC : CubeP w0 b dim r s c T) (hT : Tb w0 1) (hT1 : ∀ k, tb s T k → k ≠ 1) :
    CT Tryd.prog 62 [.pointer (some ⟨b, 0, none⟩), .agg #[.int .i64 x, .int .i64 y]] w0 (tb s T) (fun v w => MoveQ w0 b dim r s c T L (x * (dim + 1) + y) (p1, p2, p3) q v w) := by
  have hd := hV.hd
  have h28 := pow2_le dim (Nat.le_refl _) hd
  have hbl := hC.blk.lt
  have hTl := hT.lt
  obtain ⟨pa, pb, hpe, hpa, hpb⟩ := can_in ((hV.buf hl).2 _ (List.mem_cons_self ..))
  injection hpe with e1 hpe
  injection hpe with e2 e3
  (try dsimp only at e1 e2)
  subst e1
  subst e2
  have hpb8 : pb < 8 := by omega
  have F0 := Fr.refl (tb s T) w0
  have tge : ∀ k, (tb s T) k → (tb s T) k ∨ w0.heap.size ≤ k := fun k h => .inl h
  refine ct_body Tryd.func62 rfl Tryd.ntmps62 (Nat.le_of_ble_eq_true rfl) ?_
  refine wk_seq ?_
  refine wk_region ?_
  refine lx_new (want rfl) (rn_box (t_agg rfl)) ?_
  intro b21 w1 hb21 Eb21 B21 hlb21
  have F1 := F0.ext Eb21
  have hzb21 := Eb21.size
  have nb1 : ∀ k, tb s T k → k ≠ b21 := fun k hk => by have := (hC.tab).lt hk; omega
  refine lx_value (want rfl) (as_slice rfl) ?_
  refine lx_nil ?_
  refine wk_seq ?_
  refine wk_region ?_
  refine lx_value (want rfl) (mv_pointer rfl) ?_
  refine lx_value (want rfl) (rn_loadBlk ag_82 sz_82 rfl B21 rfl rfl) ?_
  refine lx_call (want rfl) (ent_func cf_87 (argsC (t_pointer rfl) (argsC (t_agg rfl) args0))) (take_ct b dim r s c T L hm hd x y hx (by omega) _ q hl w1 ⟨(hC.blk.ext Eb21), (hC.tab.ext Eb21), hC.ne⟩) ?_
  rintro _ w2 E1 ⟨rfl, T1, hC1, hm1, hG1⟩
  have F2 := F1.new' E1 (fun k h => tge k h)
  have hz1 := E1.size
  have tg1 : ∀ k, tb s T1 k → (tb s T) k ∨ w0.heap.size ≤ k := fun k hk => (hG1 k hk).elim (tge k) (fun h => .inr (by omega))
  have tn1_1 : ∀ k, tb s T1 k → k ≠ b := fun k hk => (hG1 k hk).elim (hC.ne k) (fun h => by have := (hC1.blk).lt; omega)
  have tn1_800 : ∀ k, tb s T1 k → k ≠ 1 := fun k hk => (hG1 k hk).elim (hT1 k) (fun h => by have := (hT).lt; omega)
  have tn1_21 : ∀ k, tb s T1 k → k ≠ b21 := fun k hk => (hG1 k hk).elim (nb1 k) (fun h => by have := (B21).lt; omega)
  refine lx_new (want rfl) (rn_alloc ze_41) ?_
  intro b22 w3 hb22 Eb22 B22 hlb22
  have F3 := F2.ext Eb22
  have hzb22 := Eb22.size
  have nb2 : ∀ k, tb s T1 k → k ≠ b22 := fun k hk => by have := (hC1.tab).lt hk; omega
  refine lx_set (want rfl) sz_41 rfl (t_agg rfl) rfl rfl rfl B22 (Nat.le_of_ble_eq_true rfl) ?_
  intro w4 Es1 Bs1
  have F4 := F3.set Es1 (by omega)
  have hzs1 := Es1.size
  refine lx_nil ?_
  refine wk_seq ?_
  refine wk_region ?_
  refine lx_value (want rfl) (rn_loadBlk ag_41 sz_41 rfl Bs1 rfl rfl) ?_
  refine lx_value (want rfl) (rn_fieldAddr fa_82_0 rfl) ?_
  refine lx_value (want rfl) (rn_load1Blk ag_3 rfl (((B21.fr E1 (fun h => nb1 _ h rfl)).ext Eb22).ne Es1 (by omega)) rfl) ?_
  refine lx_call (want rfl) (ent_func cf_76 (argsC (t_agg rfl) (argsC (t_int rfl) args0))) (next_ct _ _ pb x hpb8 hx w4 ((((hT.ext Eb21).fr E1 (fun h => hT1 _ h rfl)).ext Eb22).ne Es1 (by omega))) ?_
  rintro _ w5 E2 rfl
  have F5 := F4.ext E2
  have hz2 := E2.size
  refine lx_value (want rfl) (mv_tuple rfl) ?_
  refine lx_value (want rfl) (rn_extract rfl rfl) ?_
  refine lx_value (want rfl) (rn_extract rfl rfl) ?_
  refine lx_split (fun h17 => ?_) (fun h17 => ?_)
  ·
    have hne : ¬ x = pb := of_decide_eq_true h17
    obtain ⟨lm, hlm, ht, hn8, hn3, hnm, _⟩ := nxt_buf hV hx hy hpb8 hl hne
    have hlm8 := hV.le8 hlm
    have hlm2 : (L.set (x * (dim + 1) + y) q)[(nxt x pb).1 * (dim + 1) + (nxt x pb).2]? = some lm := by rw [List.getElem?_set_ne (Ne.symm hnm)]; exact hlm
    refine lx_new (want rfl) (rn_alloc ze_82) ?_
    intro b23 w6 hb23 Eb23 B23 hlb23
    have F6 := F5.ext Eb23
    have hzb23 := Eb23.size
    have nb3 : ∀ k, tb s T1 k → k ≠ b23 := fun k hk => by have := (hC1.tab).lt hk; omega
    refine lx_set (want rfl) sz_82 rfl (t_agg rfl) rfl rfl rfl B23 (Nat.le_of_ble_eq_true rfl) ?_
    intro w7 Es2 Bs2
    have F7 := F6.set Es2 (by omega)
    have hzs2 := Es2.size
    refine lx_value (want rfl) (as_bool rfl) ?_
    refine lx_nil ?_
    refine wk_seq ?_
    refine wk_seq ?_
    refine wk_region ?_
    refine lx_value (want rfl) (mv_bool rfl) ?_
    refine lx_value (want rfl) (rn_not rfl) ?_
    refine lx_nil ?_
    refine wk_cond_f rfl ?_
    refine wk_skip ?_
    refine wk_seq ?_
    refine wk_region ?_
    refine lx_value (want rfl) (mv_pointer rfl) ?_
    refine lx_value (want rfl) (rn_loadBlk ag_41 sz_41 rfl (((Bs1.ext E2).ext Eb23).ne Es2 (by omega)) rfl rfl) ?_
    refine lx_value (want rfl) (rn_loadBlk ag_82 sz_82 rfl Bs2 rfl rfl) ?_
    refine lx_call (want rfl) (ent_func cf_56 (argsC (t_pointer rfl) (argsC (t_agg rfl) (argsC (t_agg rfl) args0)))) (put_ct b dim r s c T1 (L.set (x * (dim + 1) + y) q) hm1 hd (nxt x pb).1 (nxt x pb).2 hn8 hn3 lm hlm2 _ _ _ (by omega) w7 ⟨(((((hC1.blk.ext Eb22).ne Es1 (by omega)).ext E2).ext Eb23).ne Es2 (by omega)), (((((hC1.tab.ext Eb22).fr Es1 (fun k hk h => nb2 k hk h)).ext E2).ext Eb23).fr Es2 (fun k hk h => nb3 k hk h)), tn1_1⟩) ?_
    rintro _ w8 E3 ⟨rfl, T2, hC2, hm2, hG2⟩
    have F8 := F7.new' E3 (fun k h => tg1 k h)
    have hz3 := E3.size
    have tg2 : ∀ k, tb s T2 k → (tb s T) k ∨ w0.heap.size ≤ k := fun k hk => (hG2 k hk).elim (tg1 k) (fun h => .inr (by omega))
    have tn2_1 : ∀ k, tb s T2 k → k ≠ b := fun k hk => (hG2 k hk).elim (tn1_1 k) (fun h => by have := (hC2.blk).lt; omega)
    have tn2_800 : ∀ k, tb s T2 k → k ≠ 1 := fun k hk => (hG2 k hk).elim (tn1_800 k) (fun h => by have := (hT).lt; omega)
    have tn2_21 : ∀ k, tb s T2 k → k ≠ b21 := fun k hk => (hG2 k hk).elim (tn1_21 k) (fun h => by have := (B21).lt; omega)
    have tn2_22 : ∀ k, tb s T2 k → k ≠ b22 := fun k hk => (hG2 k hk).elim (nb2 k) (fun h => by have := (Bs1).lt; omega)
    have tn2_23 : ∀ k, tb s T2 k → k ≠ b23 := fun k hk => (hG2 k hk).elim (nb3 k) (fun h => by have := (Bs2).lt; omega)
    refine lx_nil ?_
    refine wk_seq ?_
    refine wk_region ?_
    refine lx_value (want rfl) (as_slice rfl) ?_
    refine lx_nil ?_
    refine wk_ret ?_
    refine retR1 Tryd.results62 (.tmp (t_slice rfl)) F8 ?_
    exact ⟨T2, none, 0, by rw [moveO_on ht]; rfl, ⟨hC2.blk, hC2.tab, tn2_1⟩, by rw [hm2]; exact moveL_on ht hlm2, tg2, by rw [moveO_on ht]; exact Sl.nil _⟩
  ·
    have heq : x = pb := Decidable.not_not.1 (of_decide_eq_false h17)
    have ht := (tgt_nxt (dim := dim) (y := y) (a := (pa : Int)) (z := p3) hy hx hpb8).1 heq
    refine lx_new (want rfl) (rn_alloc ze_82) ?_
    intro b24 w6 hb24 Eb24 B24 hlb24
    have F9 := F5.ext Eb24
    have hzb24 := Eb24.size
    have nb4 : ∀ k, tb s T1 k → k ≠ b24 := fun k hk => by have := (hC1.tab).lt hk; omega
    refine lx_set (want rfl) sz_82 rfl (t_agg rfl) rfl rfl rfl B24 (Nat.le_of_ble_eq_true rfl) ?_
    intro w7 Es3 Bs3
    have F10 := F9.set Es3 (by omega)
    have hzs3 := Es3.size
    refine lx_value (want rfl) (as_bool rfl) ?_
    refine lx_nil ?_
    refine wk_seq ?_
    refine wk_seq ?_
    refine wk_region ?_
    refine lx_value (want rfl) (mv_bool rfl) ?_
    refine lx_value (want rfl) (rn_not rfl) ?_
    refine lx_nil ?_
    refine wk_cond_t rfl ?_
    refine wk_seq ?_
    refine wk_region ?_
    refine lx_value (want rfl) (rn_loadBlk ag_41 sz_41 rfl (((Bs1.ext E2).ext Eb24).ne Es3 (by omega)) rfl rfl) ?_
    refine lx_newS (want rfl) (rn_bslice (xs := [.tmp 20]) Tryd.underlying49 sz_41 ze_41 rfl (argsC (t_agg rfl) args0) (CL.cons rfl rfl CL.nil) rfl (Nat.le_of_ble_eq_true rfl)) ?_
    intro b25 w8 hb25 Eb25 B25 hlb25
    have F11 := F10.ext Eb25
    have hzb25 := Eb25.size
    have nb5 : ∀ k, tb s T1 k → k ≠ b25 := fun k hk => by have := (hC1.tab).lt hk; omega
    refine lx_value (want rfl) (as_slice rfl) ?_
    refine lx_nil ?_
    refine wk_ret ?_
    refine retR1 Tryd.results62 (.tmp (t_slice rfl)) F11 ?_
    exact ⟨T1, _, 1, by rw [moveO_out ht]; rfl, ⟨((((((hC1.blk.ext Eb22).ne Es1 (by omega)).ext E2).ext Eb24).ne Es3 (by omega)).ext Eb25), ((((((hC1.tab.ext Eb22).fr Es1 (fun k hk h => nb2 k hk h)).ext E2).ext Eb24).fr Es3 (fun k hk h => nb4 k hk h)).ext Eb25), tn1_1⟩, by rw [hm1]; exact moveL_out ht, tg1, by rw [moveO_out ht]; exact PkS.one B25 (by omega)⟩

theorem ccan_ct (b dim : Nat) (r : Int) (s : Option Addr) (c : Nat) (T : List (TE Pk)) (L : List (List Pk)) (hm : T.map (·.2.2) = L) (hV : Valid dim r L) (x y : Nat) (hx : x < 8) (hy : y ≤ dim) (l : List Pk) (hl : L[x * (dim + 1) + y]? = some l) (w0 : World) (hC : CubeP w0 b dim r s c T) (hT : Tb w0 1) :
    CT Tryd.prog 61 [.pointer (some ⟨b, 0, none⟩), .agg #[.int .i64 x, .int .i64 y]] w0 no (fun v _ => v = .int .i64 (canE dim r L (x * (dim + 1) + y))) := by
  have hd := hV.hd
  have h28 := pow2_le dim (Nat.le_refl _) hd
  have hbl := hC.blk.lt
  have hT1 := hT.lt
  have F0 := Fr.refl no w0
  refine ct_body Tryd.func61 rfl Tryd.ntmps61 (Nat.le_of_ble_eq_true rfl) ?_
  refine wk_seq ?_
  refine wk_region ?_
  refine lx_new (want rfl) (rn_box (t_agg rfl)) ?_
  intro b21 w1 hb21 Eb21 B21 hlb21
  have F1 := F0.ext Eb21
  have hzb21 := Eb21.size
  refine lx_value (want rfl) (as_int rfl) ?_
  refine lx_nil ?_
  refine wk_seq ?_
  refine wk_region ?_
  refine lx_value (want rfl) (mv_pointer rfl) ?_
  refine lx_value (want rfl) (rn_loadBlk ag_82 sz_82 rfl B21 rfl rfl) ?_
  refine lx_call (want rfl) (ent_func cf_86 (argsC (t_pointer rfl) (argsC (t_agg rfl) args0))) (first_ct b dim r s c T L hm hd x y hx (by omega) l hl w1 (hC.ext F1)) ?_
  rintro _ w2 E1 rfl
  have F2 := F1.ext E1
  have hz1 := E1.size
  refine lx_value (want rfl) (mv_tuple rfl) ?_
  refine lx_value (want rfl) (rn_extract rfl rfl) ?_
  refine lx_value (want rfl) (rn_extract rfl rfl) ?_
  refine lx_split (fun h14 => ?_) (fun h14 => ?_)
  ·
    obtain ⟨p1, p2, p3, q, rfl⟩ := cons_ne (of_decide_eq_true h14)
    obtain ⟨pa, pb, hpe, hpa, hpb⟩ := can_in ((hV.buf hl).2 _ (List.mem_cons_self ..))
    injection hpe with e1 hpe
    injection hpe with e2 e3
    (try dsimp only at e1 e2)
    subst e1
    subst e2
    have hpb8 : pb < 8 := by omega
    refine lx_new (want rfl) (rn_alloc ze_41) ?_
    intro b22 w3 hb22 Eb22 B22 hlb22
    have F3 := F2.ext Eb22
    have hzb22 := Eb22.size
    refine lx_set (want rfl) sz_41 rfl (t_agg rfl) rfl rfl rfl B22 (Nat.le_of_ble_eq_true rfl) ?_
    intro w4 Es1 Bs1
    have F4 := F3.set Es1 (by omega)
    have hzs1 := Es1.size
    refine lx_value (want rfl) (as_bool rfl) ?_
    refine lx_nil ?_
    refine wk_seq ?_
    refine wk_seq ?_
    refine wk_region ?_
    refine lx_value (want rfl) (mv_bool rfl) ?_
    refine lx_value (want rfl) (rn_not rfl) ?_
    refine lx_nil ?_
    refine wk_cond_f rfl ?_
    refine wk_skip ?_
    refine wk_seq ?_
    refine wk_seq ?_
    refine wk_region ?_
    refine lx_value (want rfl) (rn_loadBlk ag_41 sz_41 rfl Bs1 rfl rfl) ?_
    refine lx_value (want rfl) (rn_fieldAddr fa_82_0 rfl) ?_
    refine lx_value (want rfl) (rn_load1Blk ag_3 rfl (((B21.ext E1).ext Eb22).ne Es1 (by omega)) rfl) ?_
    refine lx_call (want rfl) (ent_func cf_76 (argsC (t_agg rfl) (argsC (t_int rfl) args0))) (next_ct _ _ pb x hpb8 hx w4 ((((hT.ext Eb21).ext E1).ext Eb22).ne Es1 (by omega))) ?_
    rintro _ w5 E2 rfl
    have F5 := F4.ext E2
    have hz2 := E2.size
    refine lx_value (want rfl) (mv_tuple rfl) ?_
    refine lx_value (want rfl) (rn_extract rfl rfl) ?_
    refine lx_value (want rfl) (rn_extract rfl rfl) ?_
    refine lx_split (fun h23 => ?_) (fun h23 => ?_)
    ·
      have hne : ¬ x = pb := of_decide_eq_true h23
      obtain ⟨lm, hlm, ht, hn8, hn3, _, _⟩ := nxt_buf hV hx hy hpb8 hl hne
      refine lx_new (want rfl) (rn_alloc ze_82) ?_
      intro b23 w6 hb23 Eb23 B23 hlb23
      have F6 := F5.ext Eb23
      have hzb23 := Eb23.size
      refine lx_set (want rfl) sz_82 rfl (t_agg rfl) rfl rfl rfl B23 (Nat.le_of_ble_eq_true rfl) ?_
      intro w7 Es2 Bs2
      have F7 := F6.set Es2 (by omega)
      have hzs2 := Es2.size
      refine lx_value (want rfl) (as_bool rfl) ?_
      refine lx_nil ?_
      refine wk_seq ?_
      refine wk_region ?_
      refine lx_value (want rfl) (mv_bool rfl) ?_
      refine lx_value (want rfl) (mv_bool rfl) ?_
      refine lx_value (want_if (j := 1) (d := 25) (x := true) (y := true) rfl rfl (by decide) rfl) (mv_pointer rfl) ?_
      refine lx_value (want_if (j := 1) (d := 25) (x := true) (y := true) rfl rfl (by decide) rfl) (rn_loadBlk ag_82 sz_82 rfl Bs2 rfl rfl) ?_
      refine lx_call (want_if (j := 1) (d := 25) (x := true) (y := true) rfl rfl (by decide) rfl) (ent_func cf_55 (argsC (t_pointer rfl) (argsC (t_agg rfl) args0))) (hasroom_ct b dim r s c T L hm hd (nxt x pb).1 (nxt x pb).2 hn8 hn3 lm hlm w7 (hC.ext F7)) ?_
      rintro _ w8 E3 rfl
      have F8 := F7.ext E3
      have hz3 := E3.size
      refine lx_split (fun h28b => ?_) (fun h28b => ?_)
      ·
        refine lx_value (want_if (j := 1) (d := 25) (x := true) (y := true) rfl rfl (by decide) rfl) (rn_not rfl) ?_
        refine lx_value (want rfl) (pick_t rfl rfl) ?_
        refine lx_nil ?_
        refine wk_cond_f rfl ?_
        refine wk_skip ?_
        refine wk_seq ?_
        refine wk_region ?_
        refine lx_value (want rfl) (as_int rfl) ?_
        refine lx_nil ?_
        refine wk_ret ?_
        refine retR1 Tryd.results61 (.tmp (t_int rfl)) F8 ?_
        exact canE_on hl ht hlm (of_decide_eq_true h28b)
      ·
        refine lx_value (want_if (j := 1) (d := 25) (x := true) (y := true) rfl rfl (by decide) rfl) (rn_not rfl) ?_
        refine lx_value (want rfl) (pick_t rfl rfl) ?_
        refine lx_nil ?_
        refine wk_cond_t rfl ?_
        refine wk_seq ?_
        refine wk_region ?_
        refine lx_value (want rfl) (as_int rfl) ?_
        refine lx_nil ?_
        refine wk_ret ?_
        refine retR1 Tryd.results61 (.tmp (t_int rfl)) F8 ?_
        exact canE_full hl ht hlm (of_decide_eq_false h28b)
    ·
      have heq : x = pb := Decidable.not_not.1 (of_decide_eq_false h23)
      refine lx_new (want rfl) (rn_alloc ze_82) ?_
      intro b24 w6 hb24 Eb24 B24 hlb24
      have F9 := F5.ext Eb24
      have hzb24 := Eb24.size
      refine lx_set (want rfl) sz_82 rfl (t_agg rfl) rfl rfl rfl B24 (Nat.le_of_ble_eq_true rfl) ?_
      intro w7 Es3 Bs3
      have F10 := F9.set Es3 (by omega)
      have hzs3 := Es3.size
      refine lx_value (want rfl) (as_bool rfl) ?_
      refine lx_nil ?_
      refine wk_seq ?_
      refine wk_region ?_
      refine lx_value (want rfl) (mv_bool rfl) ?_
      refine lx_value (want rfl) (mv_bool rfl) ?_
      refine lx_skip (want_if (j := 1) (d := 25) (x := true) (y := false) rfl rfl (by decide) rfl) ?_
      refine lx_skip (want_if (j := 1) (d := 25) (x := true) (y := false) rfl rfl (by decide) rfl) ?_
      refine lx_skip (want_if (j := 1) (d := 25) (x := true) (y := false) rfl rfl (by decide) rfl) ?_
      refine lx_skip (want_if (j := 1) (d := 25) (x := true) (y := false) rfl rfl (by decide) rfl) ?_
      refine lx_value (want rfl) (pick_f rfl rfl) ?_
      refine lx_nil ?_
      refine wk_cond_f rfl ?_
      refine wk_skip ?_
      refine wk_seq ?_
      refine wk_region ?_
      refine lx_value (want rfl) (as_int rfl) ?_
      refine lx_nil ?_
      refine wk_ret ?_
      refine retR1 Tryd.results61 (.tmp (t_int rfl)) F10 ?_
      exact canE_out hl ((tgt_nxt hy hx hpb8).1 heq)
  ·
    have hnil : l = [] := Decidable.not_not.1 (of_decide_eq_false h14)
    refine lx_new (want rfl) (rn_alloc ze_41) ?_
    intro b25 w3 hb25 Eb25 B25 hlb25
    have F11 := F2.ext Eb25
    have hzb25 := Eb25.size
    refine lx_set (want rfl) sz_41 rfl (t_agg rfl) rfl rfl rfl B25 (Nat.le_of_ble_eq_true rfl) ?_
    intro w4 Es4 Bs4
    have F12 := F11.set Es4 (by omega)
    have hzs4 := Es4.size
    refine lx_value (want rfl) (as_bool rfl) ?_
    refine lx_nil ?_
    refine wk_seq ?_
    refine wk_seq ?_
    refine wk_region ?_
    refine lx_value (want rfl) (mv_bool rfl) ?_
    refine lx_value (want rfl) (rn_not rfl) ?_
    refine lx_nil ?_
    refine wk_cond_t rfl ?_
    refine wk_seq ?_
    refine wk_region ?_
    refine lx_value (want rfl) (as_int rfl) ?_
    refine lx_nil ?_
    refine wk_ret ?_
    refine retR1 Tryd.results61 (.tmp (t_int rfl)) F12 ?_
    exact canE_none hl hnil

theorem able_ct (dim : Nat) (r : Int) (L : List (List Pk)) (s : Option Addr) (c : Nat) (G : Nat → Prop) (hV : Valid dim r L) (n : Nat) (l : List Pk) (hn : L[n]? = some l) (w0 : World) (hL : BufS G w0 s L) :
    CT Tryd.prog 63 [.agg #[.int .i64 dim, .int .i64 r, .slice s L.length c], .int .i64 n] w0 no (fun v _ => v = .bool (ableB dim r L n)) := by
  obtain ⟨hn1, hn2, hn3, hn4⟩ := hV.at hn
  have hnL := hV.len
  obtain ⟨bx, ox, rfl, _, sx, cx, hcx, hpx⟩ := hL n _ hn
  have F0 := Fr.refl no w0
  refine ct_body Tryd.func63 rfl Tryd.ntmps63 (Nat.le_of_ble_eq_true rfl) ?_
  refine wk_seq ?_
  refine wk_region ?_
  refine lx_new (want rfl) (rn_box (t_agg rfl)) ?_
  intro b1 w1 hb1 Eb1 B1 hlb1
  have F1 := F0.ext Eb1
  have hzb1 := Eb1.size
  refine lx_value (want rfl) (as_bool rfl) ?_
  refine lx_nil ?_
  refine wk_seq ?_
  refine wk_seq ?_
  refine wk_region ?_
  refine lx_value (want rfl) (rn_fieldAddr fa_24_2 rfl) ?_
  refine lx_value (want rfl) (rn_load1Blk ag_22 rfl B1 rfl) ?_
  refine lx_value (want rfl) (mv_int rfl) ?_
  refine lx_value (want rfl) (rn_index n Tryd.underlying22 sz_49 rfl rfl rfl (by omega)) ?_
  refine lx_value (want rfl) (rn_load1 ag_49 rfl (F1.cell (fun h => h) hcx)) ?_
  refine lx_value (want rfl) (rn_len Tryd.underlying49 rfl) ?_
  refine lx_value (want rfl) (rn_eql rfl rfl) ?_
  refine lx_dec (fun h0 => ?_) (fun h0 => ?_)
  ·
    refine lx_nil ?_
    refine wk_cond_t rfl ?_
    refine wk_seq ?_
    refine wk_region ?_
    refine lx_value (want rfl) (as_bool rfl) ?_
    refine lx_nil ?_
    refine wk_ret ?_
    refine retR1 Tryd.results63 (.tmp (t_bool rfl)) F1 ?_
    exact able_nil hn h0
  ·
    obtain ⟨p, q, rfl⟩ := cons_of h0
    refine lx_nil ?_
    refine wk_cond_f rfl ?_
    refine wk_skip ?_
    refine wk_seq ?_
    refine wk_region ?_
    refine lx_value (want rfl) (rn_loadBlk ag_24 sz_24 rfl B1 rfl rfl) ?_
    refine lx_value (want rfl) (mv_int rfl) ?_
    refine lx_call (want rfl) (ent_func cf_71 (argsC (t_agg rfl) (argsC (t_int rfl) args0))) (target_ct dim r L _ _ _ hV n p q hn w1 (hL.fr (buf_stab _) F1 (fun _ _ h => h))) ?_
    rintro _ w2 E1 rfl
    have F2 := F1.ext E1
    have hz1 := E1.size
    refine lx_value (want rfl) (as_int rfl) ?_
    refine lx_nil ?_
    refine wk_seq ?_
    refine wk_mix 11 (fun _ => .none) (by kernel_rfl) (by kernel_rfl) (fun kS G hk => by cases hk) (fun kS s y G hk => by cases hk) ?_
    simp only [List.take_succ_cons, List.take_zero, List.take_nil, List.drop_succ_cons, List.drop_zero, List.drop_nil]
    refine mx_calm rfl (want rfl) (fun u1 eu1 fu1 => mv_int rfl) ?_
    refine mx_calm rfl (want rfl) (fun u2 eu2 fu2 => rn_lss rfl rfl) ?_
    refine mx_dec (fun h5 => ?_) (fun h5 => ?_)
    ·
      refine mx_calm rfl (want rfl) (fun u3 eu3 fu3 => mv_bool rfl) ?_
      refine mx_skip (want_if (j := 2) (d := 18) (x := false) (y := true) rfl rfl (by decide) rfl) ?_
      refine mx_skip (want_if (j := 2) (d := 18) (x := false) (y := true) rfl rfl (by decide) rfl) ?_
      refine mx_skip (want_if (j := 2) (d := 18) (x := false) (y := true) rfl rfl (by decide) rfl) ?_
      refine mx_skip (want_if (j := 2) (d := 18) (x := false) (y := true) rfl rfl (by decide) rfl) ?_
      refine mx_skip (want_if (j := 2) (d := 18) (x := false) (y := true) rfl rfl (by decide) rfl) ?_
      refine mx_skip (want_if (j := 2) (d := 18) (x := false) (y := true) rfl rfl (by decide) rfl) ?_
      refine mx_skip (want_if (j := 2) (d := 18) (x := false) (y := true) rfl rfl (by decide) rfl) ?_
      refine mx_skip (want_if (j := 2) (d := 18) (x := false) (y := true) rfl rfl (by decide) rfl) ?_
      refine mx_nil (fun w3 E2' H1 HS => ?_)
      have E2 := (ext_drawn _).trans' E2'
      have F3 := F2.ext E2
      have hz2 := E2.size
      refine lx_skip (want_if (j := 2) (d := 18) (x := false) (y := true) rfl rfl (by decide) rfl) ?_
      refine lx_value (want rfl) (pick_t rfl rfl) ?_
      refine lx_value (want rfl) (as_bool rfl) ?_
      refine lx_nil ?_
      refine wk_ret ?_
      refine retR1 Tryd.results63 (.tmp (t_bool rfl)) F3 ?_
      exact able_out hn h5
    ·
      obtain ⟨m, hm, hmL⟩ := tgt_lt hV hn h5
      obtain ⟨lm, hlm⟩ : ∃ l, L[m]? = some l := ⟨_, List.getElem?_eq_getElem hmL⟩
      obtain ⟨bm, om, em, _, sm, cm, hcm, hpm⟩ := hL m lm hlm
      injection em with em
      injection em with e1 e2
      subst e1
      subst e2
      refine mx_calm rfl (want rfl) (fun u4 eu4 fu4 => mv_bool rfl) ?_
      refine mx_calm rfl (want_if (j := 2) (d := 18) (x := false) (y := false) rfl rfl (by decide) rfl) (fun u5 eu5 fu5 => rn_fieldAddr fa_24_2 rfl) ?_
      refine mx_calm rfl (want_if (j := 2) (d := 18) (x := false) (y := false) rfl rfl (by decide) rfl) (fun u6 eu6 fu6 => rn_load1Blk ag_22 rfl ((B1.ext E1).ext ((ext_drawn _).trans' eu6)) rfl) ?_
      refine mx_calm rfl (want_if (j := 2) (d := 18) (x := false) (y := false) rfl rfl (by decide) rfl) (fun u7 eu7 fu7 => mv_int rfl) ?_
      refine mx_calm rfl (want_if (j := 2) (d := 18) (x := false) (y := false) rfl rfl (by decide) rfl) (fun u8 eu8 fu8 => rn_index m Tryd.underlying22 sz_49 rfl rfl hm hmL) ?_
      refine mx_calm rfl (want_if (j := 2) (d := 18) (x := false) (y := false) rfl rfl (by decide) rfl) (fun u9 eu9 fu9 => rn_load1 ag_49 rfl ((F2.ext ((ext_drawn _).trans' eu9)).cell (fun h => h) hcm)) ?_
      refine mx_calm rfl (want_if (j := 2) (d := 18) (x := false) (y := false) rfl rfl (by decide) rfl) (fun u10 eu10 fu10 => rn_len Tryd.underlying49 rfl) ?_
      refine mx_calm rfl (want_if (j := 2) (d := 18) (x := false) (y := false) rfl rfl (by decide) rfl) (fun u11 eu11 fu11 => rn_fieldAddr fa_24_1 rfl) ?_
      refine mx_calm rfl (want_if (j := 2) (d := 18) (x := false) (y := false) rfl rfl (by decide) rfl) (fun u12 eu12 fu12 => rn_load1Blk ag_3 rfl ((B1.ext E1).ext ((ext_drawn _).trans' eu12)) rfl) ?_
      refine mx_nil (fun w3 E3' H2 HS => ?_)
      have E3 := (ext_drawn _).trans' E3'
      have F4 := F2.ext E3
      have hz3 := E3.size
      refine lx_value (want_if (j := 2) (d := 18) (x := false) (y := false) rfl rfl (by decide) rfl) (rn_lss rfl rfl) ?_
      refine lx_value (want rfl) (pick_f rfl rfl) ?_
      refine lx_value (want rfl) (as_bool rfl) ?_
      refine lx_nil ?_
      refine wk_ret ?_
      refine retR1 Tryd.results63 (.tmp (t_bool rfl)) F4 ?_
      exact able_on hn h5 hm hlm

theorem way1_ct (l b1 b2 dim a b : Nat) (p3 : Int) (ha : a < 8) (hb : b < 8) (bI : Nat) (K : Nat → World → Prop) (Z : World → Prop) (w0 : World) (hbI : bI = w0.heap.size) (h0 : K 0 w0) (hbx : ∀ i w, K i w → Blk w b1 [.int .i64 a, .int .i64 b, .int .i64 p3] 41 ∧ Blk w b2 [.int .i64 dim] 3 ∧ Tb w 1) (hfr : ∀ i w, K i w → Fr (fun _ => True) w0 w) (hZ : ∀ w, Z w → Fr (fun _ => True) w0 w) (hY : ∀ i w1 w2 cs s k, (spotsL a b dim)[i]? = some (s, k) → K i w1 → Fr (· = bI) w1 w2 → Blk w2 bI cs 82 → Yd Tryd.prog l [.agg #[.int .i64 (s : Nat), .int .i64 (k : Nat)]] w2 (fun c w3 => w2.heap.size ≤ w3.heap.size ∧ Blk w3 bI cs 82 ∧ Nx (K (i + 1) w3) (Z w3) c)) :
    CT Tryd.prog 75 [.func (.yield l) #[] #[], .pointer (some ⟨b1, 0, none⟩), .pointer (some ⟨b2, 0, none⟩)] w0 (fun _ => True) (fun _ w => (∃ w1, K (spotsL a b dim).length w1 ∧ Fr (· = bI) w1 w) ∨ ∃ w1, Z w1 ∧ Fr (· = bI) w1 w) := by
  obtain ⟨B1, B2, hT⟩ := hbx 0 w0 h0
  have hl1 := B1.lt
  have hl2 := B2.lt
  have hl3 := hT.lt
  have F0 := Fr.refl (fun _ => True) w0
  refine ct_body Tryd.func75 rfl Tryd.ntmps75 (Nat.le_of_ble_eq_true rfl) ?_
  refine wk_seq ?_
  refine wk_region ?_
  refine lx_value (want rfl) (rn_fieldAddr fa_41_0 rfl) ?_
  refine lx_value (want rfl) (rn_load1Blk ag_3 rfl B1 rfl) ?_
  refine lx_value (want rfl) (rn_load1Blk ag_3 rfl B2 rfl) ?_
  refine lx_value (want rfl) (rn_build2 (t_int rfl) (t_int rfl) (fun w => bd_82_0_1 _ _ w)) ?_
  refine lx_new (want rfl) (rn_alloc ze_82) ?_
  intro b21 w1 hb21 Eb21 B21 hlb21
  have F1 := F0.ext Eb21
  have hzb21 := Eb21.size
  have hbb : b21 = bI := by omega
  subst hbb
  refine lx_set (want rfl) sz_82 rfl (t_agg rfl) rfl rfl rfl B21 (Nat.le_of_ble_eq_true rfl) ?_
  intro w2 Es1 Bs1
  have F2 := F1.set Es1 (by omega)
  have hzs1 := Es1.size
  refine lx_value (want rfl) (as_bool rfl) ?_
  refine lx_nil ?_
  refine wk_block ?_
  refine wk_loopA [5, 10, 11, 12, 13, 14, 15, 16, 17, 18, 19, 20, 21, 22] (fun j => (fun _ => True) j ∨ w0.heap.size ≤ j) (fun nM ρ w => ∃ (i s k : Nat) (mo : Bool), nM = (if mo = true then (spotsL a b dim).length - i + 1 else 0) ∧ ρ 5 = .bool mo ∧ Blk w b21 [.int .i64 s, .int .i64 k] 82 ∧ (∃ w1, K i w1 ∧ Fr (· = b21) w1 w) ∧ (s < 8) ∧ ((if mo = true then (spotsL a b dim).drop i = spotsF (cnt s b) s k b else i = (spotsL a b dim).length))) _ ⟨0, a, dim, true, rfl, rfl, Bs1, ⟨_, h0, (Fr.trans (Fr.ext (Fr.refl (fun k => k = b21) w0) Eb21) Es1 (fun k _ h => h))⟩, ha, (by rw [if_pos rfl]; rfl)⟩ ?_
  rintro n1 ρ1 w3 A1 EL1 ⟨i, s, k, mo, rfl, hs1_5, BL1_21, hK, hs8, hrem⟩
  have F3 := F2.wide EL1
  have hzL1 := EL1.size
  obtain ⟨wK, hK, EK⟩ := hK
  obtain ⟨BK1, BK2, BKT⟩ := hbx _ _ hK
  have BK1 := BK1.ne EK (by omega)
  have BK2 := BK2.ne EK (by omega)
  have BKT := BKT.ne EK (by omega)
  refine wk_seq ?_
  refine wk_seq ?_
  refine wk_region ?_
  refine lx_value (want rfl) (mv_bool hs1_5) ?_
  refine lx_split (fun h10 => ?_) (fun h10 => ?_)
  ·
    subst h10
    rw [if_pos rfl] at hrem
    have hi := sp_at hrem
    have hin := sp_lt hi
    refine lx_value (want rfl) (mv_bool rfl) ?_
    refine lx_value (want_if (j := 1) (d := 11) (x := true) (y := true) rfl rfl (by decide) rfl) (mv_func (A1.at 0 rfl rfl)) ?_
    refine lx_value (want_if (j := 1) (d := 11) (x := true) (y := true) rfl rfl (by decide) rfl) (rn_loadBlk ag_82 sz_82 (A1.at 4 rfl rfl) BL1_21 rfl rfl) ?_
    refine lx_yield (want_if (j := 1) (d := 11) (x := true) (y := true) rfl rfl (by decide) rfl) rfl (argsC (t_agg rfl) args0) (hY i wK w3 _ s k hi hK EK BL1_21) ?_
    intro cY w4 ⟨hzY, BY4, HY⟩
    refine lx_split (fun h14 => ?_) (fun h14 => ?_)
    ·
      subst h14
      have HY : K (i + 1) _ := HY
      have FY := hfr _ _ HY
      obtain ⟨BY1, BY2, BYT⟩ := hbx _ _ HY
      refine lx_value (want rfl) (pick_t rfl rfl) ?_
      refine lx_nil ?_
      refine wk_cond_t rfl ?_
      refine wk_skip ?_
      refine wk_block ?_
      refine wk_region ?_
      refine lx_value (want rfl) (rn_loadBlk ag_41 sz_41 (A1.at 1 rfl rfl) BY1 rfl rfl) ?_
      refine lx_value (want rfl) (rn_fieldAddr fa_82_0 (A1.at 4 rfl rfl)) ?_
      refine lx_value (want rfl) (rn_load1Blk ag_3 rfl BY4 rfl) ?_
      refine lx_call (want rfl) (ent_func cf_76 (argsC (t_agg rfl) (argsC (t_int rfl) args0))) (next_ct _ _ b s hb hs8 w4 BYT) ?_
      rintro _ w5 E1 rfl
      have F4 := FY.ext E1
      have hz1 := E1.size
      refine lx_value (want rfl) (mv_tuple rfl) ?_
      refine lx_value (want rfl) (rn_extract rfl rfl) ?_
      refine lx_value (want rfl) (rn_extract rfl rfl) ?_
      refine lx_set (want rfl) sz_82 (A1.at 4 rfl rfl) (t_agg rfl) rfl rfl rfl (BY4.ext E1) (Nat.le_of_ble_eq_true rfl) ?_
      intro w6 Es2 Bs2
      have F5 := F4.set Es2 (by omega)
      have hzs2 := Es2.size
      refine lx_value (want rfl) (as_bool rfl) ?_
      refine lx_nil ?_
      exact ⟨rfl, (((((((((((((((A1.up rfl _).up rfl _).up rfl _).up rfl _).up rfl _).up rfl _).up rfl _).up rfl _).up rfl _).up rfl _).up rfl _).up rfl _).up rfl _).none _).up rfl _), Fr.between F2 F5 (by omega), _, (by rw [if_pos rfl]; split <;> omega), i + 1, (nxt s b).1, (nxt s b).2, decide (s ≠ b), rfl, rfl, Bs2, ⟨_, HY, (Fr.trans (Fr.ext (Fr.refl (fun k => k = b21) w4) E1) Es2 (fun k _ h => h))⟩, nxt_lt hs8 hb, sp_step hs8 hb hrem⟩
    ·
      subst h14
      have HY : Z _ := HY
      have FY := hZ _ HY
      refine lx_value (want rfl) (pick_t rfl rfl) ?_
      refine lx_nil ?_
      refine wk_cond_f rfl ?_
      refine wk_exit ?_
      (try simp only [thenK, blockK, if_true])
      refine retN ?_
      refine ret0 Tryd.results75 FY ?_
      exact .inr ⟨_, HY, Fr.refl _ _⟩
  ·
    subst h10
    rw [if_neg (by decide)] at hrem
    refine lx_value (want rfl) (mv_bool rfl) ?_
    refine lx_skip (want_if (j := 1) (d := 11) (x := true) (y := false) rfl rfl (by decide) rfl) ?_
    refine lx_skip (want_if (j := 1) (d := 11) (x := true) (y := false) rfl rfl (by decide) rfl) ?_
    refine lx_skip (want_if (j := 1) (d := 11) (x := true) (y := false) rfl rfl (by decide) rfl) ?_
    refine lx_value (want rfl) (pick_f rfl rfl) ?_
    refine lx_nil ?_
    refine wk_cond_f rfl ?_
    refine wk_exit ?_
    (try simp only [thenK, blockK, if_true])
    refine retN ?_
    refine ret0 Tryd.results75 F3 ?_
    exact .inl ⟨_, (by rw [← hrem]; exact hK), EK⟩

theorem isswitch_ct (dim : Nat) (r : Int) (s : Option Addr) (n c : Nat) (hd : dim ≤ 3) (l : List Int) (sl : Option Addr) (cl : Nat) (F : Nat → Prop) (w0 : World) (hl : IntS F w0 sl l) (hb : l.length ≤ 1048576) :
    CT Tryd.prog 48 [.agg #[.int .i64 dim, .int .i64 r, .slice s n c], .slice sl l.length cl] w0 no (fun v _ => v = .bool (inB 0 ((2 ^ dim - 1 : Nat) : Int) l)) := by
  have h28 := pow2_le dim (Nat.le_refl _) hd
  have h21 := Nat.one_le_two_pow (n := dim)
  have F0 := Fr.refl no w0
  refine ct_body Tryd.func48 rfl Tryd.ntmps48 (Nat.le_of_ble_eq_true rfl) ?_
  refine wk_seq ?_
  refine wk_region ?_
  refine lx_new (want rfl) (rn_box (t_agg rfl)) ?_
  intro b1 w1 hb1 Eb1 B1 hlb1
  have F1 := F0.ext Eb1
  have hzb1 := Eb1.size
  refine lx_value (want rfl) (as_bool rfl) ?_
  refine lx_nil ?_
  refine wk_seq ?_
  refine wk_region ?_
  refine lx_value (want rfl) (rn_loadBlk ag_76 sz_76 rfl B1 rfl rfl) ?_
  refine lx_call (want rfl) (ent_func cf_74 (argsC (t_agg rfl) args0)) (size_ct _ _ _ _ _ hd w1) ?_
  rintro _ w2 E1 rfl
  have F2 := F1.ext E1
  have hz1 := E1.size
  refine lx_value (want rfl) (rn_subN rfl (n := 1) rfl ⟨by omega, by omega⟩) ?_
  refine lx_value (want rfl) (mv_slice rfl) ?_
  refine lx_call (want rfl) (ent_func cf_47 (argsC (t_int rfl) (argsC (t_int rfl) (argsC (t_slice rfl) args0)))) (within_ct 0 _ l _ _ _ w2 (hl.fr (int_stab _) F2 (fun _ _ h => h)) hb) ?_
  rintro _ w3 E2 rfl
  have F3 := F2.ext E2
  have hz2 := E2.size
  refine lx_value (want rfl) (as_bool rfl) ?_
  refine lx_nil ?_
  refine wk_ret ?_
  refine retR1 Tryd.results48 (.tmp (t_bool rfl)) F3 ?_
  exact rfl

end Go.Proofs.YtlfclnkoimfhmaaDoor

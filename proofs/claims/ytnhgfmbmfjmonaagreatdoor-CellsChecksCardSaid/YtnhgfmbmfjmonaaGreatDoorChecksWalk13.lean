/- What functions compute: pholes, pispic. -/
import Derived.Test.YtnhgfmbmfjmonaaGreatDoorChecksFacts
import Derived.Test.YtnhgfmbmfjmonaaGreatDoorChecksPre
import Derived.Test.YtnhgfmbmfjmonaaGreatDoorChecksWalk12
import Derived.Test.YtnhgfmbmfjmonaaGreatDoorChecksWalk2
import Derived.Test.YtnhgfmbmfjmonaaGreatDoorChecksWalk4
import Derived.Test.YtnhgfmbmfjmonaaGreatDoorChecksWalk8
set_option maxRecDepth 100000
set_option linter.unusedVariables false
set_option linter.unusedSimpArgs false
namespace Go.Proofs.YtnhgfmbmfjmonaaGreatDoor
open Go Go.RowKit Go.Mix Go.Eng
theorem pholes_ct (m : Mem) (s : Option Addr) (c : Nat) (G : Nat → Prop) (hB : Bm m) (w0 : World) (hm : MemS G w0 s m) :
    CT Tryz.prog 54 [.agg #[.slice s m.length c]] w0 no (fun v w => HolR w0.heap.size w v (holesR m)) := by
  have hBl := hB.1
  have F0 := Fr.refl no w0
  refine ct_body Tryz.func54 rfl Tryz.ntmps54 (Nat.le_of_ble_eq_true rfl) ?_
  refine wk_seq ?_
  refine wk_region ?_
  refine lx_new (want rfl) (rn_box (t_agg rfl)) ?_
  intro b1 w1 hb1 Eb1 B1 hlb1
  have F1 := F0.ext Eb1
  have hzb1 := Eb1.size
  refine lx_value (want rfl) (as_slice rfl) ?_
  refine lx_nil ?_
  refine wk_seq ?_
  refine wk_seq ?_
  refine wk_region ?_
  refine lx_value (want rfl) (rn_loadBlk ag_24 sz_24 rfl B1 rfl rfl) ?_
  refine lx_call (want rfl) (ent_func cf_53 (argsC (t_agg rfl) args0)) (pcheck_ct m _ _ _ hB w1 (hm.fr (st_stab _) F1 (fun _ _ h => h))) ?_
  rintro _ w2 E1 rfl
  have F2 := F1.ext E1
  have hz1 := E1.size
  refine lx_value (want rfl) (rn_neq rfl rfl) ?_
  refine lx_dec (fun he => ?_) (fun he => ?_)
  ·
    refine lx_nil ?_
    refine wk_cond_t rfl ?_
    refine wk_seq ?_
    refine wk_region ?_
    refine lx_value (want rfl) (as_slice rfl) ?_
    refine lx_nil ?_
    refine wk_ret ?_
    refine retR1 Tryz.results54 (.tmp (t_slice rfl)) F2 ?_
    exact hol_chk he
  ·
    have hok : okM m = true := chk_0 he
    have h400 := (okM_iff.1 hok).1
    refine lx_nil ?_
    refine wk_cond_f rfl ?_
    refine wk_skip ?_
    refine wk_seq ?_
    refine wk_seq ?_
    refine wk_region ?_
    refine lx_value (want rfl) (rn_fieldAddr fa_24_0 rfl) ?_
    refine lx_value (want rfl) (rn_load1Blk ag_22 rfl (B1.ext E1) rfl) ?_
    refine lx_value (want rfl) (rn_len Tryz.underlying22 rfl) ?_
    refine lx_value (want rfl) (mv_int rfl) ?_
    refine lx_nil ?_
    refine wk_block ?_
    refine wk_loopA [2, 3, 4, 5, 6, 13, 14, 15, 16, 17, 18, 19, 20, 21, 22, 23, 24, 25, 26, 27, 28, 29, 30, 31, 32, 33, 34, 35] (fun j => no j ∨ w0.heap.size ≤ j) (fun nM ρ w => ∃ (i : Nat) (so1_9 : Option Addr) (co1_9 : Nat), nM = m.length - i ∧ ρ 13 = .int .i64 i ∧ Blk w b1 (cellsOf B1) 24 ∧ ρ 2 = .slice so1_9 ((holesU m i).length) co1_9 ∧ OwnS w 86 2 so1_9 ((holesU m i).length) co1_9 ((holesU m i).flatMap rdC) ∧ (∀ k, ob so1_9 k → w0.heap.size ≤ k) ∧ (∀ k, ob so1_9 k → k ≠ b1) ∧ (i ≤ m.length) ∧ ((holesU m i).length ≤ 100 * i)) _ ⟨0, none, 0, rfl, rfl, (B1.ext E1), rfl, ((OwnS.nil w1 86 2).ext E1), (fun _ h => ob_none h), (fun _ h => ob_none h), by omega, Nat.zero_le _⟩ ?_
    rintro n1 ρ1 w3 A1 EL1 ⟨i, so1_9, co1_9, rfl, hs1_13, BL1_1, ho1_9, ow1L_9, ge1L_9, ne1L_9_1, hi, hcnt⟩
    have F3 := F2.wide EL1
    have hzL1 := EL1.size
    refine wk_seq ?_
    refine wk_region ?_
    refine lx_value (want rfl) (rn_lss hs1_13 (A1.at 12 rfl rfl)) ?_
    refine lx_dec (fun hlt => ?_) (fun hlt => ?_)
    ·
      obtain ⟨x, hx⟩ := getx hlt
      obtain ⟨bx, ox, rfl, _, sc, cc, sw, cw, hcx, hcy, hcv, hcr⟩ := hm i x hx
      have hBx := hB.get hx
      have hx100 : x.1.length ≤ 100 := (stB_iff.1 ((okM_iff.1 hok).2.1 x (List.mem_of_getElem? hx))).1
      refine lx_nil ?_
      refine wk_seq ?_
      refine wk_cond_t rfl ?_
      refine wk_skip ?_
      refine wk_seq ?_
      refine wk_block ?_
      refine wk_seq ?_
      refine wk_region ?_
      refine lx_value (want rfl) (mv_int hs1_13) ?_
      refine lx_value (want rfl) (rn_index _ Tryz.underlying22 sz_65 (A1.at 11 rfl rfl) hs1_13 rfl (by omega)) ?_
      refine lx_value (want rfl) (rn_load2 ag_65 sz_65 rfl (F3.cell (fun h => h) hcx) (F3.cell (fun h => h) hcy)) ?_
      refine lx_new (want rfl) (rn_alloc ze_65) ?_
      intro b2 w4 hb2 Eb2 B2 hlb2
      have F4 := F3.ext Eb2
      have hzb2 := Eb2.size
      have nb1 : ∀ k, ob so1_9 k → k ≠ b2 := fun k hk => by have := (ow1L_9).lt hk; omega
      refine lx_value (want rfl) (as_int rfl) ?_
      refine lx_set (want rfl) sz_65 rfl (t_agg rfl) rfl rfl rfl B2 (Nat.le_of_ble_eq_true rfl) ?_
      intro w5 Es1 Bs1
      have F5 := F4.set Es1 (by omega)
      have hzs1 := Es1.size
      refine lx_nil ?_
      refine wk_seq ?_
      refine wk_region ?_
      refine lx_value (want rfl) (rn_fieldAddr fa_65_0 rfl) ?_
      refine lx_value (want rfl) (rn_load1Blk ag_30 rfl Bs1 rfl) ?_
      refine lx_value (want rfl) (rn_len Tryz.underlying30 rfl) ?_
      refine lx_value (want rfl) (mv_int rfl) ?_
      refine lx_nil ?_
      refine wk_block ?_
      refine wk_loopA [2, 5, 6, 21, 22, 23, 24, 25, 26, 27, 28, 29, 30, 31, 32, 33, 34] (fun j => no j ∨ w0.heap.size ≤ j) (fun nM ρ w => ∃ (k : Nat) (so2_9 : Option Addr) (co2_9 : Nat), nM = x.1.length - k ∧ ρ 21 = .int .i64 k ∧ ρ 3 = .int .i64 i ∧ Blk w b1 (cellsOf BL1_1) 24 ∧ Blk w b2 (cellsOf Bs1) 65 ∧ ρ 2 = .slice so2_9 ((holesU m i ++ rowH i x.1 k).length) co2_9 ∧ OwnS w 86 2 so2_9 ((holesU m i ++ rowH i x.1 k).length) co2_9 ((holesU m i ++ rowH i x.1 k).flatMap rdC) ∧ (∀ k, ob so2_9 k → w0.heap.size ≤ k) ∧ (∀ k, ob so2_9 k → k ≠ b1) ∧ (∀ k, ob so2_9 k → k ≠ b2) ∧ (k ≤ x.1.length)) _ ⟨0, so1_9, co1_9, rfl, rfl, rfl, ((BL1_1.ext Eb2).ne Es1 (by omega)), Bs1, (by rw [rowH_0, List.append_nil]; exact ho1_9), (by rw [rowH_0, List.append_nil]; exact ((ow1L_9.ext Eb2).ne Es1 (fun h => nb1 _ h rfl))), ge1L_9, ne1L_9_1, nb1, by omega⟩ ?_
      rintro n2 ρ2 w6 A2 EL2 ⟨k, so2_9, co2_9, rfl, hs2_21, hs2_3, BL2_1, BL2_2, ho2_9, ow2L_9, ge2L_9, ne2L_9_1, ne2L_9_2, hk⟩
      have F6 := F5.wide EL2
      have hzL2 := EL2.size
      refine wk_seq ?_
      refine wk_region ?_
      refine lx_value (want rfl) (rn_lss hs2_21 (A2.at 20 rfl rfl)) ?_
      refine lx_dec (fun hlt2 => ?_) (fun hlt2 => ?_)
      ·
        obtain ⟨v, hv⟩ := getx hlt2
        obtain ⟨bv, ov, rfl, _, hvv⟩ := hcv k v hv
        refine lx_nil ?_
        refine wk_seq ?_
        refine wk_cond_t rfl ?_
        refine wk_skip ?_
        refine wk_seq ?_
        refine wk_block ?_
        refine wk_seq ?_
        refine wk_region ?_
        refine lx_value (want rfl) (mv_int hs2_21) ?_
        refine lx_value (want rfl) (rn_index _ Tryz.underlying30 sz_36 (A2.at 19 rfl rfl) hs2_21 rfl (by omega)) ?_
        refine lx_value (want rfl) (rn_load2 ag_36 sz_36 rfl (F6.cell (fun h => h) (hvv 0 _ rfl)) (F6.cell (fun h => h) (hvv 1 _ rfl))) ?_
        refine lx_new (want rfl) (rn_alloc ze_36) ?_
        intro b3 w7 hb3 Eb3 B3 hlb3
        have F7 := F6.ext Eb3
        have hzb3 := Eb3.size
        have nb2 : ∀ k, ob so2_9 k → k ≠ b3 := fun k hk => by have := (ow2L_9).lt hk; omega
        refine lx_value (want rfl) (as_int rfl) ?_
        refine lx_set (want rfl) sz_36 rfl (t_agg rfl) rfl rfl rfl B3 (Nat.le_of_ble_eq_true rfl) ?_
        intro w8 Es2 Bs2
        have F8 := F7.set Es2 (by omega)
        have hzs2 := Es2.size
        refine lx_nil ?_
        refine wk_seq ?_
        refine wk_region ?_
        refine lx_value (want rfl) (rn_loadBlk ag_36 sz_36 rfl Bs2 rfl rfl) ?_
        refine lx_call (want rfl) (ent_func cf_99 (argsC (t_agg rfl) args0)) (ishole_ct _ _ w8) ?_
        rintro _ w9 E2 rfl
        have F9 := F8.ext E2
        have hz2 := E2.size
        refine lx_split (fun h0 => ?_) (fun h0 => ?_)
        ·
          replace h0 := of_decide_eq_true h0
          have hr1 := rowH_y (L := holesU m i) (i := (i : Int)) hv h0
          refine lx_nil ?_
          refine wk_cond_t rfl ?_
          refine wk_region ?_
          refine lx_value (want rfl) (mv_slice ho2_9) ?_
          refine lx_value (want rfl) (mv_int hs2_3) ?_
          refine lx_value (want rfl) (mv_int rfl) ?_
          refine lx_value (want rfl) (rn_build2 (t_int rfl) (t_int rfl) (fun w => bd_86_0_1 _ _ w)) ?_
          refine lx_newS (want rfl) (rn_bslice (xs := [.tmp 31]) Tryz.underlying84 sz_86 ze_86 rfl (argsC (t_agg rfl) args0) (CL.cons rfl rfl CL.nil) rfl (Nat.le_of_ble_eq_true rfl)) ?_
          intro b4 w10 hb4 Eb4 B4 hlb4
          have F10 := F9.ext Eb4
          have hzb4 := Eb4.size
          have nb3 : ∀ k, ob so2_9 k → k ≠ b4 := fun k hk => by have := (ow2L_9).lt hk; omega
          refine lx_append 16 (want rfl) Tryz.underlying84 ti_86 (by decide) rfl (by decide) rfl rfl ((((ow2L_9.ext Eb3).ne Es2 (fun h => nb2 _ h rfl)).ext E2).ext Eb4) ((Src.blk B4 rfl rfl)) (by rw [List.length_append]; have := rowH_len k (i := (i : Int)) (l := x.1); omega) ?_
          intro sq2 cq2 w11 AP2
          have EA2 := AP2.fr
          have ow2 := AP2.own
          have ge2 : ∀ k, ob sq2 k → w0.heap.size ≤ k := fun k hk => (AP2.blk k hk).elim (ge2L_9 k) (fun h => (Nat.le_trans F10.size h))
          have ne2_1 : ∀ k, ob sq2 k → k ≠ b1 := fun k hk => (AP2.blk k hk).elim (ne2L_9_1 k) (fun h => by have := (((((BL2_1.ext Eb3).ne Es2 (by omega)).ext E2).ext Eb4)).lt; omega)
          have ne2_2 : ∀ k, ob sq2 k → k ≠ b2 := fun k hk => (AP2.blk k hk).elim (ne2L_9_2 k) (fun h => by have := (((((BL2_2.ext Eb3).ne Es2 (by omega)).ext E2).ext Eb4)).lt; omega)
          have ne2_3 : ∀ k, ob sq2 k → k ≠ b3 := fun k hk => (AP2.blk k hk).elim (nb2 k) (fun h => by have := (((Bs2.ext E2).ext Eb4)).lt; omega)
          have ne2_4 : ∀ k, ob sq2 k → k ≠ b4 := fun k hk => (AP2.blk k hk).elim (nb3 k) (fun h => by have := (B4).lt; omega)
          have F11 := F10.new EA2 ge2L_9
          have hzA2 := EA2.size
          have BA2_1 := ((((BL2_1.ext Eb3).ne Es2 (by omega)).ext E2).ext Eb4).fr EA2 (fun h => ne2L_9_1 _ h rfl)
          have BA2_2 := ((((BL2_2.ext Eb3).ne Es2 (by omega)).ext E2).ext Eb4).fr EA2 (fun h => ne2L_9_2 _ h rfl)
          have BA2_3 := ((Bs2.ext E2).ext Eb4).fr EA2 (fun h => nb2 _ h rfl)
          have BA2_4 := B4.fr EA2 (fun h => nb3 _ h rfl)
          refine lx_value (want rfl) (as_slice rfl) ?_
          refine lx_nil ?_
          refine wk_region ?_
          refine lx_value (want rfl) (rn_add hs2_21 rfl (by omega)) ?_
          refine lx_value (want rfl) (mv_int rfl) ?_
          refine lx_nil ?_
          exact ⟨rfl, ((((((((((((((((((A2.up rfl _).up rfl _).up rfl _).up rfl _).up rfl _).up rfl _).none _).up rfl _).up rfl _).up rfl _).up rfl _).up rfl _).up rfl _).up rfl _).up rfl _).up rfl _).up rfl _).up rfl _), Fr.between F5 F11 (by omega), _, (by omega), k + 1, sq2, cq2, rfl, rfl, hs2_3, BA2_1, BA2_2, (by rw [hr1]; first | exact rfl | exact slot_app rfl), (by rw [hr1]; first | exact ow2 | exact own_more ow2 rfl), ge2, ne2_1, ne2_2, by have := (List.getElem?_eq_some_iff.1 hv).1; omega⟩
        ·
          replace h0 := of_decide_eq_false h0
          have hr1 := rowH_n (L := holesU m i) (i := (i : Int)) hv h0
          refine lx_nil ?_
          refine wk_cond_f rfl ?_
          refine wk_skip ?_
          refine wk_region ?_
          refine lx_value (want rfl) (rn_add hs2_21 rfl (by omega)) ?_
          refine lx_value (want rfl) (mv_int rfl) ?_
          refine lx_nil ?_
          exact ⟨rfl, (((((((((((A2.up rfl _).up rfl _).up rfl _).up rfl _).up rfl _).up rfl _).none _).up rfl _).up rfl _).up rfl _).up rfl _), Fr.between F5 F9 (by omega), _, (by omega), k + 1, so2_9, co2_9, rfl, rfl, hs2_3, (((BL2_1.ext Eb3).ne Es2 (by omega)).ext E2), (((BL2_2.ext Eb3).ne Es2 (by omega)).ext E2), (by rw [hr1]; first | exact ho2_9 | exact slot_app ho2_9), (by rw [hr1]; first | exact (((ow2L_9.ext Eb3).ne Es2 (fun h => nb2 _ h rfl)).ext E2) | exact own_more (((ow2L_9.ext Eb3).ne Es2 (fun h => nb2 _ h rfl)).ext E2) rfl), ge2L_9, ne2L_9_1, ne2L_9_2, by have := (List.getElem?_eq_some_iff.1 hv).1; omega⟩
      ·
        refine lx_nil ?_
        refine wk_seq ?_
        refine wk_cond_f rfl ?_
        refine wk_exit ?_
        refine wk_region ?_
        refine lx_value (want rfl) (rn_add (A2.at 13 rfl hs1_13) rfl (by omega)) ?_
        refine lx_value (want rfl) (mv_int rfl) ?_
        refine lx_nil ?_
        exact ⟨rfl, (((((((((((((((A1.up rfl _).up rfl _).up rfl _).up rfl _).up rfl _).up rfl _).none _).up rfl _).up rfl _).up rfl _).up rfl _).loop A2 rfl).up rfl _).up rfl _).up rfl _), Fr.between F2 F6 (by omega), _, (by omega), i + 1, so2_9, co2_9, rfl, rfl, BL2_1, (by rw [holesU_on hx, show x.1.length = k by omega]; exact ho2_9), (by rw [holesU_on hx, show x.1.length = k by omega]; exact ow2L_9), ge2L_9, ne2L_9_1, by have := (List.getElem?_eq_some_iff.1 hx).1; omega, (by rw [holesU_on hx, List.length_append]; have := rowH_len x.1.length (i := (i : Int)) (l := x.1); omega)⟩
    ·
      refine lx_nil ?_
      refine wk_seq ?_
      refine wk_cond_f rfl ?_
      refine wk_exit ?_
      refine wk_seq ?_
      refine wk_region ?_
      refine lx_value (want rfl) (mv_slice ho1_9) ?_
      refine lx_value (want rfl) (as_slice rfl) ?_
      refine lx_nil ?_
      refine wk_ret ?_
      refine retR1 Tryz.results54 (.tmp (t_slice rfl)) F3 ?_
      exact hol_ok hok rfl ow1L_9 ge1L_9 hi hlt

theorem pispic_ct (p : Pic) (sv : Option Addr) (cv : Nat) (sk : Option Addr) (ck : Nat) (G : Nat → Prop) (hB : Bp p) (w0 : World) (hv : VlS G w0 sv p.1) (hk : VvS G w0 sk p.2) :
    CT Tryz.prog 33 [.agg #[.slice sv p.1.length cv, .slice sk p.2.length ck]] w0 no (fun v _ => v = .bool (isPicB p)) := by
  have hB1 := hB.1
  have hB2 := hB.2.1
  have F0 := Fr.refl no w0
  refine ct_body Tryz.func33 rfl Tryz.ntmps33 (Nat.le_of_ble_eq_true rfl) ?_
  refine wk_seq ?_
  refine wk_region ?_
  refine lx_new (want rfl) (rn_box (t_agg rfl)) ?_
  intro b1 w1 hb1 Eb1 B1 hlb1
  have F1 := F0.ext Eb1
  have hzb1 := Eb1.size
  refine lx_value (want rfl) (as_bool rfl) ?_
  refine lx_nil ?_
  refine wk_seq ?_
  refine wk_mix 11 (fun kS => match kS with | 2 => .any (fun I v w => ∃ s c, v = .agg #[.slice s (memC p.2).length c] ∧ MemS (Iv I.1 I.2) w s (memC p.2)) | 5 => .any (fun I v w => ∃ pv, v = .tuple #[pv, .int .i64 (drawR (memC p.2) p.1).1] ∧ PicI I w pv (drawR (memC p.2) p.1).2) | 9 => .any (fun I v w => v = .pointer (some ⟨I.1, 0, none⟩) ∧ w1.heap.size ≤ I.1 ∧ I.1 < I.2 ∧ Blk w I.1 [.slice none 0 0, .slice none 0 0] 45) | 10 => .sto 3 12 (fun J u w => J.1 < J.2 ∧ Blk w J.1 u.cells.toList 45) | _ => .none) (by kernel_rfl) (by kernel_rfl) (by intro kS G hk; (try dsimp only at hk); (split at hk) <;> first | (cases hk; done) | (injection hk with hk; subst hk; exact ⟨by intro j hkj I v w w' hR hG; first | exact hG | (obtain ⟨s, c, h1, h2⟩ := hG; exact ⟨s, c, h1, h2.fr (st_stab _) hR (fun _ _ h => h)⟩) | (obtain ⟨pv, h1, h2⟩ := hG; exact ⟨pv, h1, h2.fr hR (fun _ _ h => h)⟩) | (obtain ⟨h1, h2, hI, h3⟩ := hG; exact ⟨h1, h2, hI, h3.ext hR⟩), fun _ I v w w' hR hG => by first | exact hG | (obtain ⟨s, c, h1, h2⟩ := hG; exact ⟨s, c, h1, h2.fr (st_stab _) hR (fun k hk h => h.2 hk)⟩) | (obtain ⟨pv, h1, h2⟩ := hG; exact ⟨pv, h1, h2.fr hR (fun k hk h => h.2 hk)⟩) | (obtain ⟨h1, h2, hI, h3⟩ := hG; exact ⟨h1, h2, hI, h3.fr hR (fun h => h.2 ⟨Nat.le_refl _, hI⟩)⟩)⟩)) (by intro kS s y G hk; (try dsimp only at hk); (split at hk) <;> first | (cases hk; done) | (injection hk with hk1 hk2 hk3; subst hk1; subst hk2; subst hk3; exact ⟨by kernel_rfl, by intro j hkj I v w w' hR hG; exact ⟨hG.1, hG.2.ext hR⟩, fun I v w w' hR hG => ⟨hG.1, hG.2.fr hR (fun h => h.2 ⟨Nat.le_refl _, hG.1⟩)⟩⟩)) ?_
  simp only [List.take_succ_cons, List.take_zero, List.take_nil, List.drop_succ_cons, List.drop_zero, List.drop_nil]
  refine mx_calm rfl (want rfl) (fun u1 eu1 fu1 => rn_fieldAddr fa_45_1 rfl) ?_
  refine mx_calm rfl (want rfl) (fun u2 eu2 fu2 => rn_load1Blk ag_43 rfl (B1.ext ((ext_drawn _).trans' eu2)) rfl) ?_
  refine mx_any rfl rfl (want rfl) (fun u3 eu3 fu3 => do_call (ent_func cf_79 (argsC (t_slice rfl) args0)) (pofcells_ct p.2 sk ck G hB.2.1 hB.2.2 u3 (hk.fr (vv_stab _) (F1.ext ((ext_drawn _).trans' eu3)) (fun _ _ h => h))) (fun v w' E h => ⟨E, h.read⟩)) (fun I8 v8 => ?_)
  refine mx_calm rfl (want rfl) (fun u4 eu4 fu4 => rn_fieldAddr fa_45_0 rfl) ?_
  refine mx_calm rfl (want rfl) (fun u5 eu5 fu5 => rn_load1Blk ag_30 rfl (B1.ext ((ext_drawn _).trans' eu5)) rfl) ?_
  refine mx_any rfl rfl (want rfl) (fun u6 eu6 fu6 => by obtain ⟨sM8, cM8, rfl, hM8⟩ := fu6 8 _ rfl (show (8 : Nat) ∈ _ from by decide); exact do_call (ent_func cf_30 (argsC (t_agg rfl) (argsC (t_slice rfl) args0))) (pDraw_ct (memC p.2) sM8 cM8 _ (memC_Bm hB.2.1 hB.2.2) p.1 sv cv G hB.1 u6 hM8 (hv.fr (vl_stab _) (F1.ext ((ext_drawn _).trans' eu6)) (fun _ _ h => h))) (fun v w' E h => ⟨E, h⟩)) (fun I11 v11 => ?_)
  refine mx_calm (v := .tuple #[.agg #[.slice (sad (aget (tget v11 0) 0)) (sln (aget (tget v11 0) 0)) (scp (aget (tget v11 0) 0)), .slice (sad (aget (tget v11 0) 1)) (sln (aget (tget v11 0) 1)) (scp (aget (tget v11 0) 1))], .int .i64 (drawR (memC p.2) p.1).1]) rfl (want rfl) (fun u7 eu7 fu7 => by obtain ⟨pv, rfl, s1, c1, s2, c2, rfl, _, _⟩ := fu7 11 _ rfl (show (11 : Nat) ∈ _ from by decide); exact rn_move rfl) ?_
  refine mx_calm rfl (want rfl) (fun u8 eu8 fu8 => rn_extract rfl rfl) ?_
  refine mx_calm rfl (want rfl) (fun u9 eu9 fu9 => rn_extract rfl rfl) ?_
  refine mx_any rfl rfl (want rfl) (fun u10 eu10 fu10 => (do_new3 (rn_alloc ze_45) (show _ ≤ _ from (((ext_drawn _).trans' eu10)).size)).mono (fun v w' h => ⟨h.1, h.2⟩)) (fun I3 v3 => ?_)
  refine mx_sto rfl rfl rfl rfl (want rfl) (fun u11 eu11 fu11 _ => by obtain ⟨rfl, hl3, hi3, hB3⟩ := fu11 3 _ rfl (show (3 : Nat) ∈ _ from by decide); exact (do_sto sz_45 rfl rfl rfl rfl rfl hB3 rfl ⟨Nat.le_refl _, hi3⟩).mono (fun v w' h => ⟨h.1, h.2.1, hi3, h.2.2⟩)) ?_
  refine mx_nil (fun w2 E1' H1 HS => ?_)
  have E1 := (ext_drawn _).trans' E1'
  have F2 := F1.ext E1
  have hz1 := E1.size
  have hI3 := (HS.1 3 _ rfl).2
  have hI11 := (HS.1 11 _ rfl).2
  have hI8 := (HS.1 8 _ rfl).2
  have hX3_11 := HS.2 3 _ 11 _ rfl rfl (show (3 : Nat) ≠ 11 from by decide)
  have hX3_8 := HS.2 3 _ 8 _ rfl rfl (show (3 : Nat) ≠ 8 from by decide)
  have hX11_8 := HS.2 11 _ 8 _ rfl rfl (show (11 : Nat) ≠ 8 from by decide)
  simp only at hI3
  simp only at hI11
  simp only at hI8
  simp only at hX3_11
  simp only at hX3_8
  simp only at hX11_8
  have g3 := H1 3 _ rfl
  obtain ⟨⟨_, hv3, hb3, _, _⟩, hi3, hB3⟩ := g3; subst hv3; have hlb3 := hB3.lt
  have g11 := H1 11 _ rfl
  obtain ⟨pv, rfl, hPI⟩ := g11
  obtain ⟨s1, c1, s2, c2, rfl, hV1, hV2⟩ := hPI
  have g8 := H1 8 _ rfl
  refine lx_value (want rfl) (as_int rfl) ?_
  refine lx_nil ?_
  refine wk_seq ?_
  refine wk_region ?_
  refine lx_value (want rfl) (mv_int rfl) ?_
  refine lx_value (want rfl) (rn_eql rfl rfl) ?_
  refine lx_dec (fun he => ?_) (fun he => ?_)
  ·
    refine lx_value (want rfl) (mv_bool rfl) ?_
    refine lx_value (want_if (j := 2) (d := 16) (x := true) (y := true) rfl rfl (by decide) rfl) (rn_loadBlk ag_45 sz_45 rfl (B1.ext E1) rfl rfl) ?_
    refine lx_value (want_if (j := 2) (d := 16) (x := true) (y := true) rfl rfl (by decide) rfl) (rn_loadBlk ag_45 sz_45 rfl hB3 rfl rfl) ?_
    refine lx_call (want_if (j := 2) (d := 16) (x := true) (y := true) rfl rfl (by decide) rfl) (ent_func cf_80 (argsC (t_agg rfl) (argsC (t_agg rfl) args0))) (psame_ct p sv cv sk ck G (drawR (memC p.2) p.1).2 s1 c1 s2 c2 _ (drawR_Bp (memC_Bm hB.2.1 hB.2.2) hB.1) w2 (hv.fr (vl_stab _) F2 (fun _ _ h => h)) (hk.fr (vv_stab _) F2 (fun _ _ h => h)) hV1 hV2) ?_
    rintro _ w3 E2 rfl
    have F3 := F2.ext E2
    have hz2 := E2.size
    refine lx_value (want rfl) (pick_t rfl rfl) ?_
    refine lx_value (want rfl) (as_bool rfl) ?_
    refine lx_nil ?_
    refine wk_ret ?_
    refine retR1 Tryz.results33 (.tmp (t_bool rfl)) F3 ?_
    exact isPic_t he
  ·
    refine lx_value (want rfl) (mv_bool rfl) ?_
    refine lx_skip (want_if (j := 2) (d := 16) (x := true) (y := false) rfl rfl (by decide) rfl) ?_
    refine lx_skip (want_if (j := 2) (d := 16) (x := true) (y := false) rfl rfl (by decide) rfl) ?_
    refine lx_skip (want_if (j := 2) (d := 16) (x := true) (y := false) rfl rfl (by decide) rfl) ?_
    refine lx_value (want rfl) (pick_f rfl rfl) ?_
    refine lx_value (want rfl) (as_bool rfl) ?_
    refine lx_nil ?_
    refine wk_ret ?_
    refine retR1 Tryz.results33 (.tmp (t_bool rfl)) F2 ?_
    exact isPic_f he

end Go.Proofs.YtnhgfmbmfjmonaaGreatDoor

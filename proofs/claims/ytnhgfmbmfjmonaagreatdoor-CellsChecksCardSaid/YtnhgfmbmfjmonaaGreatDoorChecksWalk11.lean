/- What functions compute: refholes, pprim. -/
import Derived.Test.YtnhgfmbmfjmonaaGreatDoorChecksFacts
import Derived.Test.YtnhgfmbmfjmonaaGreatDoorChecksPre
import Derived.Test.YtnhgfmbmfjmonaaGreatDoorChecksWalk2
import Derived.Test.YtnhgfmbmfjmonaaGreatDoorChecksWalk5
import Derived.Test.YtnhgfmbmfjmonaaGreatDoorChecksWalk8
import Derived.Test.YtnhgfmbmfjmonaaGreatDoorChecksWalk9
set_option maxRecDepth 100000
set_option linter.unusedVariables false
set_option linter.unusedSimpArgs false
namespace Go.Proofs.YtnhgfmbmfjmonaaGreatDoor
open Go Go.RowKit Go.Mix Go.Eng
theorem refholes_ct (m : Mem) (s : Option Addr) (c : Nat) (G : Nat → Prop) (hB : Bm m) (w0 : World) (hm : MemS G w0 s m) :
    CT Tryz.prog 55 [.agg #[.slice s m.length c]] w0 no (fun v w => HolR w0.heap.size w v (holesR m)) := by
  have hBl := hB.1
  have F0 := Fr.refl no w0
  refine ct_body Tryz.func55 rfl Tryz.ntmps55 (Nat.le_of_ble_eq_true rfl) ?_
  refine wk_seq ?_
  refine wk_region ?_
  refine lx_new (want rfl) (rn_box (t_agg rfl)) ?_
  intro b1 w1 hb1 Eb1 B1 hlb1
  have F1 := F0.ext Eb1
  have hzb1 := Eb1.size
  refine lx_value (want rfl) (as_slice rfl) ?_
  refine lx_nil ?_
  refine wk_seq ?_
  refine wk_seq ?_
  refine wk_region ?_
  refine lx_value (want rfl) (rn_loadBlk ag_24 sz_24 rfl B1 rfl rfl) ?_
  refine lx_call (want rfl) (ent_func cf_56 (argsC (t_agg rfl) args0)) (refcheck_ct m _ _ _ hB w1 (hm.fr (st_stab _) F1 (fun _ _ h => h))) ?_
  rintro _ w2 E1 rfl
  have F2 := F1.ext E1
  have hz1 := E1.size
  refine lx_value (want rfl) (rn_neq rfl rfl) ?_
  refine lx_dec (fun he => ?_) (fun he => ?_)
  ·
    refine lx_nil ?_
    refine wk_cond_t rfl ?_
    refine wk_seq ?_
    refine wk_region ?_
    refine lx_value (want rfl) (as_slice rfl) ?_
    refine lx_nil ?_
    refine wk_ret ?_
    refine retR1 Tryz.results55 (.tmp (t_slice rfl)) F2 ?_
    exact hol_chk he
  ·
    have hok : okM m = true := chk_0 he
    have h400 := (okM_iff.1 hok).1
    refine lx_nil ?_
    refine wk_cond_f rfl ?_
    refine wk_skip ?_
    refine wk_seq ?_
    refine wk_region ?_
    refine lx_value (want rfl) (as_slice rfl) ?_
    refine lx_nil ?_
    refine wk_seq ?_
    refine wk_seq ?_
    refine wk_region ?_
    refine lx_value (want rfl) (as_int rfl) ?_
    refine lx_nil ?_
    refine wk_block ?_
    refine wk_loopA [3, 4, 5, 9, 10, 11, 12, 13, 14, 15, 16, 17, 18, 19, 20, 21, 22, 23, 24, 25, 26, 27, 28, 29, 30, 31, 32, 33, 34, 35, 36, 37, 38, 39, 40, 41, 42, 43] (fun j => no j ∨ w0.heap.size ≤ j) (fun nM ρ w => ∃ (i : Nat) (so1_9 : Option Addr) (co1_9 : Nat), nM = m.length - i ∧ ρ 4 = .int .i64 i ∧ Blk w b1 (cellsOf B1) 24 ∧ ρ 3 = .slice so1_9 ((holesU m i).length) co1_9 ∧ OwnS w 86 2 so1_9 ((holesU m i).length) co1_9 ((holesU m i).flatMap rdC) ∧ (∀ k, ob so1_9 k → w0.heap.size ≤ k) ∧ (∀ k, ob so1_9 k → k ≠ b1) ∧ (i ≤ m.length) ∧ ((holesU m i).length ≤ 100 * i)) _ ⟨0, none, 0, rfl, rfl, (B1.ext E1), rfl, (OwnS.nil w2 86 2), (fun _ h => ob_none h), (fun _ h => ob_none h), by omega, Nat.zero_le _⟩ ?_
    rintro n1 ρ1 w3 A1 EL1 ⟨i, so1_9, co1_9, rfl, hs1_4, BL1_1, ho1_9, ow1L_9, ge1L_9, ne1L_9_1, hi, hcnt⟩
    have F3 := F2.wide EL1
    have hzL1 := EL1.size
    refine wk_seq ?_
    refine wk_seq ?_
    refine wk_region ?_
    refine lx_value (want rfl) (mv_int hs1_4) ?_
    refine lx_value (want rfl) (rn_fieldAddr fa_24_0 (A1.at 1 rfl rfl)) ?_
    refine lx_value (want rfl) (rn_load1Blk ag_22 rfl BL1_1 rfl) ?_
    refine lx_value (want rfl) (rn_len Tryz.underlying22 rfl) ?_
    refine lx_value (want rfl) (rn_lss rfl rfl) ?_
    refine lx_dec (fun hlt => ?_) (fun hlt => ?_)
    ·
      obtain ⟨x, hx⟩ := getx hlt
      obtain ⟨bx, ox, rfl, _, sc, cc, sw, cw, hcx, hcy, hcv, hcr⟩ := hm i x hx
      have hBx := hB.get hx
      have hx100 : x.1.length ≤ 100 := (stB_iff.1 ((okM_iff.1 hok).2.1 x (List.mem_of_getElem? hx))).1
      refine lx_nil ?_
      refine wk_cond_t rfl ?_
      refine wk_skip ?_
      refine wk_seq ?_
      refine wk_block ?_
      refine wk_seq ?_
      refine wk_region ?_
      refine lx_value (want rfl) (as_int rfl) ?_
      refine lx_nil ?_
      refine wk_block ?_
      refine wk_loopA [3, 5, 16, 17, 18, 19, 20, 21, 22, 23, 24, 25, 26, 27, 28, 29, 30, 31, 32, 33, 34, 35, 36, 37, 38, 39, 40, 41, 42, 43] (fun j => no j ∨ w0.heap.size ≤ j) (fun nM ρ w => ∃ (k : Nat) (so2_9 : Option Addr) (co2_9 : Nat), nM = x.1.length - k ∧ ρ 5 = .int .i64 k ∧ ρ 4 = .int .i64 i ∧ Blk w b1 (cellsOf BL1_1) 24 ∧ ρ 3 = .slice so2_9 ((holesU m i ++ rowH i x.1 k).length) co2_9 ∧ OwnS w 86 2 so2_9 ((holesU m i ++ rowH i x.1 k).length) co2_9 ((holesU m i ++ rowH i x.1 k).flatMap rdC) ∧ (∀ k, ob so2_9 k → w0.heap.size ≤ k) ∧ (∀ k, ob so2_9 k → k ≠ b1) ∧ (k ≤ x.1.length)) _ ⟨0, so1_9, co1_9, rfl, rfl, hs1_4, BL1_1, (by rw [rowH_0, List.append_nil]; exact ho1_9), (by rw [rowH_0, List.append_nil]; exact ow1L_9), ge1L_9, ne1L_9_1, by omega⟩ ?_
      rintro n2 ρ2 w4 A2 EL2 ⟨k, so2_9, co2_9, rfl, hs2_5, hs2_4, BL2_1, ho2_9, ow2L_9, ge2L_9, ne2L_9_1, hk⟩
      have F4 := F3.wide EL2
      have hzL2 := EL2.size
      refine wk_seq ?_
      refine wk_seq ?_
      refine wk_region ?_
      refine lx_value (want rfl) (mv_int hs2_5) ?_
      refine lx_value (want rfl) (rn_fieldAddr fa_24_0 (A2.at 1 rfl (A1.at 1 rfl rfl))) ?_
      refine lx_value (want rfl) (rn_load1Blk ag_22 rfl BL2_1 rfl) ?_
      refine lx_value (want rfl) (mv_int hs2_4) ?_
      refine lx_value (want rfl) (rn_index _ Tryz.underlying22 sz_65 rfl rfl rfl (by omega)) ?_
      refine lx_value (want rfl) (rn_fieldAddr fa_65_0 rfl) ?_
      refine lx_value (want rfl) (rn_load1 ag_30 rfl (F4.cell (fun h => h) hcx)) ?_
      refine lx_value (want rfl) (rn_len Tryz.underlying30 rfl) ?_
      refine lx_value (want rfl) (rn_lss rfl rfl) ?_
      refine lx_dec (fun hlt2 => ?_) (fun hlt2 => ?_)
      ·
        obtain ⟨v, hv⟩ := getx hlt2
        obtain ⟨bv, ov, rfl, _, hvv⟩ := hcv k v hv
        refine lx_nil ?_
        refine wk_cond_t rfl ?_
        refine wk_skip ?_
        refine wk_seq ?_
        refine wk_block ?_
        refine wk_seq ?_
        refine wk_region ?_
        refine lx_value (want rfl) (rn_fieldAddr fa_24_0 (A2.at 1 rfl (A1.at 1 rfl rfl))) ?_
        refine lx_value (want rfl) (rn_load1Blk ag_22 rfl BL2_1 rfl) ?_
        refine lx_value (want rfl) (mv_int hs2_4) ?_
        refine lx_value (want rfl) (rn_index _ Tryz.underlying22 sz_65 rfl rfl rfl (by omega)) ?_
        refine lx_value (want rfl) (rn_fieldAddr fa_65_0 rfl) ?_
        refine lx_value (want rfl) (rn_load1 ag_30 rfl (F4.cell (fun h => h) hcx)) ?_
        refine lx_value (want rfl) (mv_int hs2_5) ?_
        refine lx_value (want rfl) (rn_index _ Tryz.underlying30 sz_36 rfl rfl rfl (by omega)) ?_
        refine lx_value (want rfl) (rn_fieldAddr fa_36_0 rfl) ?_
        refine lx_value (want rfl) (rn_load1 ag_5 rfl (F4.cell (fun h => h) (hvv 0 _ rfl))) ?_
        refine lx_value (want rfl) (rn_eql rfl rfl) ?_
        refine lx_dec (fun h0 => ?_) (fun h0 => ?_)
        ·
          have hr1 := rowH_y (L := holesU m i) (i := (i : Int)) hv h0
          refine lx_nil ?_
          refine wk_cond_t rfl ?_
          refine wk_region ?_
          refine lx_value (want rfl) (mv_slice ho2_9) ?_
          refine lx_value (want rfl) (mv_int hs2_4) ?_
          refine lx_value (want rfl) (mv_int hs2_5) ?_
          refine lx_value (want rfl) (rn_build2 (t_int rfl) (t_int rfl) (fun w => bd_86_0_1 _ _ w)) ?_
          refine lx_newS (want rfl) (rn_bslice (xs := [.tmp 41]) Tryz.underlying84 sz_86 ze_86 rfl (argsC (t_agg rfl) args0) (CL.cons rfl rfl CL.nil) rfl (Nat.le_of_ble_eq_true rfl)) ?_
          intro b2 w5 hb2 Eb2 B2 hlb2
          have F5 := F4.ext Eb2
          have hzb2 := Eb2.size
          have nb1 : ∀ k, ob so2_9 k → k ≠ b2 := fun k hk => by have := (ow2L_9).lt hk; omega
          refine lx_append 16 (want rfl) Tryz.underlying84 ti_86 (by decide) rfl (by decide) rfl rfl (ow2L_9.ext Eb2) ((Src.blk B2 rfl rfl)) (by rw [List.length_append]; have := rowH_len k (i := (i : Int)) (l := x.1); omega) ?_
          intro sq2 cq2 w6 AP2
          have EA2 := AP2.fr
          have ow2 := AP2.own
          have ge2 : ∀ k, ob sq2 k → w0.heap.size ≤ k := fun k hk => (AP2.blk k hk).elim (ge2L_9 k) (fun h => (Nat.le_trans F5.size h))
          have ne2_1 : ∀ k, ob sq2 k → k ≠ b1 := fun k hk => (AP2.blk k hk).elim (ne2L_9_1 k) (fun h => by have := ((BL2_1.ext Eb2)).lt; omega)
          have ne2_2 : ∀ k, ob sq2 k → k ≠ b2 := fun k hk => (AP2.blk k hk).elim (nb1 k) (fun h => by have := (B2).lt; omega)
          have F6 := F5.new EA2 ge2L_9
          have hzA2 := EA2.size
          have BA2_1 := (BL2_1.ext Eb2).fr EA2 (fun h => ne2L_9_1 _ h rfl)
          have BA2_2 := B2.fr EA2 (fun h => nb1 _ h rfl)
          refine lx_value (want rfl) (as_slice rfl) ?_
          refine lx_nil ?_
          refine wk_region ?_
          refine lx_value (want rfl) (mv_int hs2_5) ?_
          refine lx_value (want rfl) (rn_add rfl rfl (by omega)) ?_
          refine lx_value (want rfl) (as_int rfl) ?_
          refine lx_nil ?_
          exact ⟨rfl, ((((((((((((((((((((((((((((((A2.up rfl _).up rfl _).up rfl _).up rfl _).up rfl _).up rfl _).up rfl _).up rfl _).up rfl _).up rfl _).up rfl _).up rfl _).up rfl _).up rfl _).up rfl _).up rfl _).up rfl _).up rfl _).up rfl _).up rfl _).up rfl _).up rfl _).up rfl _).up rfl _).up rfl _).up rfl _).up rfl _).up rfl _).up rfl _).up rfl _), Fr.between F3 F6 (by omega), _, (by omega), k + 1, sq2, cq2, rfl, rfl, hs2_4, BA2_1, (by rw [hr1]; first | exact rfl | exact slot_app rfl), (by rw [hr1]; first | exact ow2 | exact own_more ow2 rfl), ge2, ne2_1, by have := (List.getElem?_eq_some_iff.1 hv).1; omega⟩
        ·
          have hr1 := rowH_n (L := holesU m i) (i := (i : Int)) hv h0
          refine lx_nil ?_
          refine wk_cond_f rfl ?_
          refine wk_skip ?_
          refine wk_region ?_
          refine lx_value (want rfl) (mv_int hs2_5) ?_
          refine lx_value (want rfl) (rn_add rfl rfl (by omega)) ?_
          refine lx_value (want rfl) (as_int rfl) ?_
          refine lx_nil ?_
          exact ⟨rfl, (((((((((((((((((((((((A2.up rfl _).up rfl _).up rfl _).up rfl _).up rfl _).up rfl _).up rfl _).up rfl _).up rfl _).up rfl _).up rfl _).up rfl _).up rfl _).up rfl _).up rfl _).up rfl _).up rfl _).up rfl _).up rfl _).up rfl _).up rfl _).up rfl _).up rfl _), Fr.between F3 F4 (by omega), _, (by omega), k + 1, so2_9, co2_9, rfl, rfl, hs2_4, BL2_1, (by rw [hr1]; first | exact ho2_9 | exact slot_app ho2_9), (by rw [hr1]; first | exact ow2L_9 | exact own_more ow2L_9 rfl), ge2L_9, ne2L_9_1, by have := (List.getElem?_eq_some_iff.1 hv).1; omega⟩
      ·
        refine lx_nil ?_
        refine wk_cond_f rfl ?_
        refine wk_exit ?_
        refine wk_region ?_
        refine lx_value (want rfl) (mv_int hs2_4) ?_
        refine lx_value (want rfl) (rn_add rfl rfl (by omega)) ?_
        refine lx_value (want rfl) (as_int rfl) ?_
        refine lx_nil ?_
        exact ⟨rfl, (((((((((((((((((((A1.up rfl _).up rfl _).up rfl _).up rfl _).up rfl _).up rfl _).loop A2 rfl).up rfl _).up rfl _).up rfl _).up rfl _).up rfl _).up rfl _).up rfl _).up rfl _).up rfl _).up rfl _).up rfl _).up rfl _), Fr.between F2 F4 (by omega), _, (by omega), i + 1, so2_9, co2_9, rfl, rfl, BL2_1, (by rw [holesU_on hx, show x.1.length = k by omega]; exact ho2_9), (by rw [holesU_on hx, show x.1.length = k by omega]; exact ow2L_9), ge2L_9, ne2L_9_1, by have := (List.getElem?_eq_some_iff.1 hx).1; omega, (by rw [holesU_on hx, List.length_append]; have := rowH_len x.1.length (i := (i : Int)) (l := x.1); omega)⟩
    ·
      refine lx_nil ?_
      refine wk_cond_f rfl ?_
      refine wk_exit ?_
      refine wk_seq ?_
      refine wk_region ?_
      refine lx_value (want rfl) (mv_slice ho1_9) ?_
      refine lx_value (want rfl) (as_slice rfl) ?_
      refine lx_nil ?_
      refine wk_ret ?_
      refine retR1 Tryz.results55 (.tmp (t_slice rfl)) F3 ?_
      exact hol_ok hok rfl ow1L_9 ge1L_9 hi hlt

theorem pprim_ct (nm : ByteArray) (l : List Vl) (s : Option Addr) (c : Nat) (F : Nat → Prop) (hb : l.length ≤ 1048576) (w0 : World) (hl : VlS F w0 s l) :
    CT Tryz.prog 36 [.string nm, .slice s l.length c] w0 no (fun v _ => v = .tuple #[vlV (primS nm l).1, .int .i64 (primS nm l).2]) := by
  have F0 := Fr.refl no w0
  refine ct_body Tryz.func36 rfl Tryz.ntmps36 (Nat.le_of_ble_eq_true rfl) ?_
  refine wk_seq ?_
  refine wk_region ?_
  refine lx_new (want rfl) (rn_alloc ze_36) ?_
  intro b1 w1 hb1 Eb1 B1 hlb1
  have F1 := F0.ext Eb1
  have hzb1 := Eb1.size
  refine lx_value (want rfl) (as_int rfl) ?_
  refine lx_nil ?_
  refine wk_seq ?_
  refine wk_region ?_
  refine lx_call (want rfl) (ent_func cf_82 args0) (operations_ct w1) ?_
  rintro _ w2 E1 ⟨bO, bI, bE, bN, rfl, hMO, hBI, hBE, hBN⟩
  have F2 := F1.ext E1
  have hz1 := E1.size
  refine lx_value (want rfl) (mv_string rfl) ?_
  rcases look_op bI bE bN (.agg #[.int .i64 0, .slice none 0 0, .nilFunc]) nm with ⟨hid, hlk⟩ | ⟨k, hid, hlk⟩
  ·
    refine lx_value (v := .tuple #[.agg #[.int .i64 0, .slice none 0 0, .nilFunc], .bool false]) (want rfl) ((by rw [← hlk]; exact rn_lookOk mv_128 rfl rfl hMO)) ?_
    refine lx_value (want rfl) (mv_tuple rfl) ?_
    refine lx_value (want rfl) (rn_extract rfl rfl) ?_
    refine lx_value (want rfl) (rn_extract rfl rfl) ?_
    refine lx_b_f (rfl) ?_
    refine lx_new (want rfl) (rn_alloc ze_126) ?_
    intro b2 w3 hb2 Eb2 B2 hlb2
    have F3 := F2.ext Eb2
    have hzb2 := Eb2.size
    refine lx_set (want rfl) sz_126 rfl (t_agg rfl) rfl rfl rfl B2 (Nat.le_of_ble_eq_true rfl) ?_
    intro w4 Es1 Bs1
    have F4 := F3.set Es1 (by omega)
    have hzs1 := Es1.size
    refine lx_value (want rfl) (as_bool rfl) ?_
    refine lx_nil ?_
    refine wk_seq ?_
    refine wk_block ?_
    refine wk_seq ?_
    refine wk_region ?_
    refine lx_value (want rfl) (mv_bool rfl) ?_
    refine lx_value (want rfl) (rn_not rfl) ?_
    refine lx_value (want rfl) (as_bool rfl) ?_
    refine lx_nil ?_
    refine wk_cond_t rfl ?_
    refine wk_seq ?_
    refine wk_region ?_
    refine lx_value (want rfl) (rn_build0  (fun w => bd_36  w)) ?_
    refine lx_set (want rfl) sz_36 rfl (t_agg rfl) rfl rfl rfl (((B1.ext E1).ext Eb2).ne Es1 (by omega)) (Nat.le_of_ble_eq_true rfl) ?_
    intro w5 Es2 Bs2
    have F5 := F4.set Es2 (by omega)
    have hzs2 := Es2.size
    refine lx_value (want rfl) (as_int rfl) ?_
    refine lx_nil ?_
    refine wk_ret ?_
    refine retR2 Tryz.results36 (.cell rfl (run_loadVar_blk ag_36 sz_36 Bs2 rfl rfl)) (.tmp (t_int rfl)) F5 ?_
    exact ps_name hid
  ·
    refine lx_value (v := .tuple #[opV bI bE bN k, .bool true]) (want rfl) ((by rw [← hlk]; exact rn_lookOk mv_128 rfl rfl hMO)) ?_
    refine lx_value (want rfl) (mv_tuple rfl) ?_
    refine lx_value (want rfl) (rn_extract rfl rfl) ?_
    refine lx_value (want rfl) (rn_extract rfl rfl) ?_
    refine lx_b_t (rfl) ?_
    refine lx_new (want rfl) (rn_alloc ze_126) ?_
    intro b3 w3 hb3 Eb3 B3 hlb3
    have F6 := F2.ext Eb3
    have hzb3 := Eb3.size
    refine lx_set (want rfl) sz_126 rfl (t_agg rfl) rfl rfl rfl B3 (Nat.le_of_ble_eq_true rfl) ?_
    intro w4 Es3 Bs3
    have F7 := F6.set Es3 (by omega)
    have hzs3 := Es3.size
    refine lx_value (want rfl) (as_bool rfl) ?_
    refine lx_nil ?_
    refine wk_seq ?_
    refine wk_block ?_
    refine wk_seq ?_
    refine wk_region ?_
    refine lx_value (want rfl) (mv_bool rfl) ?_
    refine lx_value (want rfl) (rn_not rfl) ?_
    refine lx_value (want rfl) (as_bool rfl) ?_
    refine lx_nil ?_
    refine wk_cond_f rfl ?_
    refine wk_seq ?_
    refine wk_region ?_
    refine lx_value (want rfl) (mv_slice rfl) ?_
    refine lx_value (want rfl) (rn_len Tryz.underlying30 rfl) ?_
    refine lx_value (want rfl) (rn_fieldAddr fa_126_0 rfl) ?_
    refine lx_value (want rfl) (rn_load1Blk ag_3 rfl Bs3 rfl) ?_
    refine lx_value (want rfl) (rn_neq rfl rfl) ?_
    refine lx_dec (fun har => ?_) (fun har => ?_)
    ·
      refine lx_value (want rfl) (as_bool rfl) ?_
      refine lx_nil ?_
      refine wk_cond_t rfl ?_
      refine wk_seq ?_
      refine wk_region ?_
      refine lx_value (want rfl) (rn_build0  (fun w => bd_36  w)) ?_
      refine lx_set (want rfl) sz_36 rfl (t_agg rfl) rfl rfl rfl (((B1.ext E1).ext Eb3).ne Es3 (by omega)) (Nat.le_of_ble_eq_true rfl) ?_
      intro w5 Es4 Bs4
      have F8 := F7.set Es4 (by omega)
      have hzs4 := Es4.size
      refine lx_value (want rfl) (as_int rfl) ?_
      refine lx_nil ?_
      refine wk_ret ?_
      refine retR2 Tryz.results36 (.cell rfl (run_loadVar_blk ag_36 sz_36 Bs4 rfl rfl)) (.tmp (t_int rfl)) F8 ?_
      exact ps_arg hid (fun g => har g)
    ·
      refine lx_value (want rfl) (as_bool rfl) ?_
      refine lx_nil ?_
      refine wk_cond_f rfl ?_
      refine wk_seq ?_
      refine wk_region ?_
      refine lx_value (want rfl) (mv_slice rfl) ?_
      refine lx_call (want rfl) (ent_func cf_73 (argsC (t_slice rfl) (argsC rfl args0))) (containsv_ct l _ _ _ 83 [] (fun v => !isValA v) cf_83 w4 (hl.fr (vl_stab _) F7 (fun _ _ h => h)) hb (fun z w hz E => prim1_ct z w)) ?_
      rintro _ w5 E2 rfl
      have F9 := F7.ext E2
      have hz2 := E2.size
      refine lx_split (fun hany => ?_) (fun hany => ?_)
      ·
        refine lx_value (want rfl) (as_bool rfl) ?_
        refine lx_nil ?_
        refine wk_cond_t rfl ?_
        refine wk_seq ?_
        refine wk_region ?_
        refine lx_value (want rfl) (rn_build0  (fun w => bd_36  w)) ?_
        refine lx_set (want rfl) sz_36 rfl (t_agg rfl) rfl rfl rfl ((((B1.ext E1).ext Eb3).ne Es3 (by omega)).ext E2) (Nat.le_of_ble_eq_true rfl) ?_
        intro w6 Es5 Bs5
        have F10 := F9.set Es5 (by omega)
        have hzs5 := Es5.size
        refine lx_value (want rfl) (as_int rfl) ?_
        refine lx_nil ?_
        refine wk_ret ?_
        refine retR2 Tryz.results36 (.cell rfl (run_loadVar_blk ag_36 sz_36 Bs5 rfl rfl)) (.tmp (t_int rfl)) F10 ?_
        exact ps_form hid (Decidable.not_not.1 har) hany
      ·
        refine lx_value (want rfl) (as_bool rfl) ?_
        refine lx_nil ?_
        refine wk_cond_f rfl ?_
        refine wk_skip ?_
        refine wk_seq ?_
        refine wk_region ?_
        refine lx_value (want rfl) (rn_loadBlk ag_126 sz_126 rfl (Bs3.ext E2) rfl rfl) ?_
        refine lx_value (want rfl) (mv_slice rfl) ?_
        obtain ⟨hk10, hnm⟩ := idS_lt hid
        have hlA := (arity_pos k).1
        have harE : (l.length : Int) = (arity k : Int) := Decidable.not_not.1 har
        have hvA : l.all isValA = true := by rw [any_not] at hany; simpa using hany
        have hBI2 := hBI.fr (Fr.ext (Fr.trans (Fr.ext (Fr.refl (fun k => k = b3) w2) Eb3) Es3 (fun k _ h => h)) E2) (fun h => by have := hBI.lt; have h : bI = b3 := h; omega)
        have hBE2 := hBE.fr (Fr.ext (Fr.trans (Fr.ext (Fr.refl (fun k => k = b3) w2) Eb3) Es3 (fun k _ h => h)) E2) (fun h => by have := hBE.lt; have h : bE = b3 := h; omega)
        have hBN2 := hBN.fr (Fr.ext (Fr.trans (Fr.ext (Fr.refl (fun k => k = b3) w2) Eb3) Es3 (fun k _ h => h)) E2) (fun h => by have := hBN.lt; have h : bN = b3 := h; omega)
        refine lx_call (want rfl) (ent_func cf_84 (argsC (t_agg rfl) (argsC (t_slice rfl) args0))) (work_ct k (kbN bI bE bN k) (fidN k) l _ _ F hb (by omega) hvA (by rcases k10 hk10 with rfl | rfl | rfl | rfl | rfl | rfl | rfl | rfl | rfl | rfl; exact cf_124; exact cf_126; exact cf_127; exact cf_128; exact cf_131; exact cf_133; exact cf_134; exact cf_136; exact cf_137; exact cf_138) (fun a b w ha hb => by rcases k10 hk10 with rfl | rfl | rfl | rfl | rfl | rfl | rfl | rfl | rfl | rfl; exact op0_ct a b ha hb w; exact op1_ct a b ha hb w; exact op2_ct a b ha hb w; exact op3_ct a b ha hb w; exact op4_ct a b ha hb w; exact op5_ct a b ha hb w; exact op6_ct a b ha hb w; exact op7_ct a b ha hb w; exact op8_ct a b ha hb w; exact op9_ct a b ha hb w) w5 (by rcases k10 hk10 with rfl | rfl | rfl | rfl | rfl | rfl | rfl | rfl | rfl | rfl <;> first | exact hBI2 | exact hBE2 | exact hBN2) (hl.fr (vl_stab _) F9 (fun _ _ h => h))) ?_
        rintro _ w6 E3 rfl
        have F11 := F9.ext E3
        have hz3 := E3.size
        refine lx_set (want rfl) sz_36 rfl (t_agg rfl) rfl rfl rfl (((((B1.ext E1).ext Eb3).ne Es3 (by omega)).ext E2).ext E3) (Nat.le_of_ble_eq_true rfl) ?_
        intro w7 Es6 Bs6
        have F12 := F11.set Es6 (by omega)
        have hzs6 := Es6.size
        refine lx_value (want rfl) (as_int rfl) ?_
        refine lx_nil ?_
        refine wk_ret ?_
        refine retR2 Tryz.results36 (.cell rfl (run_loadVar_blk ag_36 sz_36 Bs6 rfl rfl)) (.tmp (t_int rfl)) F12 ?_
        exact ps_ok hid harE hany

end Go.Proofs.YtnhgfmbmfjmonaaGreatDoor

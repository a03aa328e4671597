/- What functions compute: pBuild. -/
import Derived.Test.YtnhgfmbmfjmonaaGreatDoorNamesFacts
import Derived.Test.YtnhgfmbmfjmonaaGreatDoorNamesPre
import Derived.Test.YtnhgfmbmfjmonaaGreatDoorNamesWalk2
import Derived.Test.YtnhgfmbmfjmonaaGreatDoorNamesWalk4
import Derived.Test.YtnhgfmbmfjmonaaGreatDoorNamesWalk5
set_option maxRecDepth 100000
set_option linter.unusedVariables false
set_option linter.unusedSimpArgs false
namespace Go.Proofs.YtnhgfmbmfjmonaaGreatDoor
open Go Go.RowKit Go.Mix Go.Eng
set_option maxHeartbeats 4000000 in
set_option maxRecDepth 100000 in
theorem pBuild_ct (L : List (List Int)) (s : Option Addr) (c : Nat) (F : Nat → Prop) (C : List Bool) (s2 : Option Addr) (c2 : Nat) (F2 : Nat → Prop) (hLn : L.length ≤ 1048576) (hLl : ∀ l ∈ L, l.length ≤ 1048576) (hLs : sumI L ≤ 1048576) (w0 : World) (hl : IIS F w0 s L) (hc : BoS F2 w0 s2 C) :
  CT Tryz.prog 63 [.slice s L.length c, .slice s2 C.length c2] w0 no (fun v w => OutU w0.heap.size w v (buildE L C)) := by
 have F0 := Fr.refl no w0
 refine ct_body Tryz.func63 rfl Tryz.ntmps63 (Nat.le_of_ble_eq_true rfl) ?_
 refine wk_seq ?_
 refine wk_region ?_
 refine lx_new (want rfl) (rn_alloc ze_24) ?_
 intro b1 w1 hb1 Eb1 B1 hlb1
 have F1 := F0.ext Eb1
 have hzb1 := Eb1.size
 refine lx_value (want rfl) (as_slice rfl) ?_
 refine lx_value (want rfl) (as_int rfl) ?_
 refine lx_nil ?_
 refine wk_seq ?_
 refine wk_seq ?_
 refine wk_region ?_
 refine lx_value (want rfl) (mv_slice rfl) ?_
 refine lx_value (want rfl) (rn_len Tryz.underlying96 rfl) ?_
 refine lx_value (want rfl) (mv_slice rfl) ?_
 refine lx_value (want rfl) (rn_len Tryz.underlying95 rfl) ?_
 refine lx_value (want rfl) (rn_neq rfl rfl) ?_
 refine lx_dec (fun hne => ?_) (fun hne => ?_)
 ·
  refine lx_nil ?_
  refine wk_cond_t rfl ?_
  refine wk_seq ?_
  refine wk_region ?_
  refine lx_value (want rfl) (rn_loadBlk ag_24 sz_24 rfl B1 rfl rfl) ?_
  refine lx_set (want rfl) sz_24 rfl (t_agg rfl) rfl rfl rfl B1 (Nat.le_of_ble_eq_true rfl) ?_
  intro w2 Es1 Bs1
  have F2 := F1.set Es1 (by omega)
  have hzs1 := Es1.size
  refine lx_value (want rfl) (as_slice rfl) ?_
  refine lx_value (want rfl) (as_int rfl) ?_
  refine lx_nil ?_
  refine wk_ret ?_
  refine retR3 Tryz.results63 (.cell rfl (run_loadVar_blk ag_24 sz_24 Bs1 rfl rfl)) (.tmp (t_slice rfl)) (.tmp (t_int rfl)) F2 ?_
  first | exact outU_2 (by omega) | exact outU_3 hle hno | exact outU_5 hle hAL (by omega)
 ·
  have hle : L.length = C.length := by omega
  refine lx_nil ?_
  refine wk_cond_f rfl ?_
  refine wk_skip ?_
  refine wk_seq ?_
  refine wk_region ?_
  refine lx_value (want rfl) (mv_slice rfl) ?_
  refine lx_call (want rfl) (ent_func cf_102 (argsC (t_slice rfl) args0)) (concat_ct L s c F hLn hLl hLs w1 (hl.fr (ii_stab _) F1 (fun _ _ h => h))) ?_
  rintro _ w2 E1 ⟨sK, cK, rfl, hOK, hgK⟩
  have F3 := F1.ext E1
  have hz1 := E1.size
  have hIK := own_ints hOK hgK
  refine lx_value (want rfl) (as_slice rfl) ?_
  refine lx_nil ?_
  refine wk_seq ?_
  refine wk_block ?_
  refine wk_seq ?_
  refine wk_region ?_
  refine lx_value (want rfl) (mv_slice rfl) ?_
  refine lx_call (want rfl) (ent_func cf_103 (argsC (t_slice rfl) (argsC rfl args0))) ((by have h := containsi_ct L.flatten sK cK _ 104 [] (fun z => !inI z) cf_104 w2 (hIK.fr (int_stab _) (Fr.refl no w2) (fun k hk h => by have hk1 := hk.1; have hk2 := hk.2; (try dsimp only at h hk1 hk2); first | exact h.elim | omega | (rcases (show _ ∨ _ from h) with h | h <;> omega))) (by rw [flat_sum]; omega) (fun z w hz E => build1_ct z w); rw [flat_sum] at h; exact h)) ?_
  rintro _ w3 E2 rfl
  have F4 := F3.ext E2
  have hz2 := E2.size
  refine lx_split (fun hany => ?_) (fun hany => ?_)
  ·
   have hno : ¬ (L.all fun l => l.all inI) = true := fun g => by rw [flat_any, g] at hany; cases hany
   refine lx_value (want rfl) (as_bool rfl) ?_
   refine lx_nil ?_
   refine wk_cond_t rfl ?_
   refine wk_seq ?_
   refine wk_region ?_
   refine lx_value (want rfl) (rn_loadBlk ag_24 sz_24 rfl ((B1.ext E1).ext E2) rfl rfl) ?_
   refine lx_set (want rfl) sz_24 rfl (t_agg rfl) rfl rfl rfl ((B1.ext E1).ext E2) (Nat.le_of_ble_eq_true rfl) ?_
   intro w4 Es2 Bs2
   have F5 := F4.set Es2 (by omega)
   have hzs2 := Es2.size
   refine lx_value (want rfl) (as_slice rfl) ?_
   refine lx_value (want rfl) (as_int rfl) ?_
   refine lx_nil ?_
   refine wk_ret ?_
   refine retR3 Tryz.results63 (.cell rfl (run_loadVar_blk ag_24 sz_24 Bs2 rfl rfl)) (.tmp (t_slice rfl)) (.tmp (t_int rfl)) F5 ?_
   first | exact outU_2 (by omega) | exact outU_3 hle hno | exact outU_5 hle hAL (by omega)
  ·
   have hAL : (L.all fun l => l.all inI) = true := by rw [flat_any] at hany; simpa using hany
   refine lx_value (want rfl) (as_bool rfl) ?_
   refine lx_nil ?_
   refine wk_cond_f rfl ?_
   refine wk_seq ?_
   refine wk_region ?_
   refine lx_value (want rfl) (mv_slice rfl) ?_
   refine lx_value (want rfl) (rn_len Tryz.underlying77 rfl) ?_
   refine lx_value (want rfl) (rn_gtr rfl rfl) ?_
   refine lx_dec (fun h400 => ?_) (fun h400 => ?_)
   ·
    refine lx_value (want rfl) (as_bool rfl) ?_
    refine lx_nil ?_
    refine wk_cond_t rfl ?_
    refine wk_seq ?_
    refine wk_region ?_
    refine lx_value (want rfl) (rn_loadBlk ag_24 sz_24 rfl ((B1.ext E1).ext E2) rfl rfl) ?_
    refine lx_set (want rfl) sz_24 rfl (t_agg rfl) rfl rfl rfl ((B1.ext E1).ext E2) (Nat.le_of_ble_eq_true rfl) ?_
    intro w4 Es3 Bs3
    have F6 := F4.set Es3 (by omega)
    have hzs3 := Es3.size
    refine lx_value (want rfl) (as_slice rfl) ?_
    refine lx_value (want rfl) (as_int rfl) ?_
    refine lx_nil ?_
    refine wk_ret ?_
    refine retR3 Tryz.results63 (.cell rfl (run_loadVar_blk ag_24 sz_24 Bs3 rfl rfl)) (.tmp (t_slice rfl)) (.tmp (t_int rfl)) F6 ?_
    first | exact outU_2 (by omega) | exact outU_3 hle hno | exact outU_5 hle hAL (by omega)
   ·
    have h4L : sumI L ≤ 400 := by omega
    refine lx_value (want rfl) (as_bool rfl) ?_
    refine lx_nil ?_
    refine wk_cond_f rfl ?_
    refine wk_skip ?_
    refine wk_seq ?_
    refine wk_seq ?_
    refine wk_region ?_
    refine lx_value (want rfl) (mv_slice rfl) ?_
    refine lx_value (want rfl) (rn_len Tryz.underlying95 rfl) ?_
    refine lx_value (want rfl) (mv_int rfl) ?_
    refine lx_nil ?_
    refine wk_block ?_
    refine wk_loopA [5, 8, 9, 10, 11, 12, 13, 33, 34, 35, 36, 37, 38, 39, 40, 41, 42, 43, 44, 45, 46, 47, 48, 49, 50, 51, 52, 53, 54, 55, 56, 57, 58, 59, 60, 61, 62, 63, 64, 65, 66, 67, 68, 69, 70, 71, 72, 73, 74, 75, 76, 77, 78, 79, 80, 81, 82, 83, 84, 85, 86, 87] (fun j => no j ∨ w0.heap.size ≤ j) (fun nM ρ w => ∃ (i : Nat) (so1_2 : Option Addr) (co1_2 : Nat) (st1_1 : Option Addr) (ct1_1 : Nat) (TT1_1 : List (SE Vl Rd)), nM = L.length - i ∧ ρ 33 = .int .i64 i ∧ Blk w b1 [.slice st1_1 TT1_1.length ct1_1] 24 ∧ ρ 5 = .slice so1_2 ((buN L C i).2.length) co1_2 ∧ OwnS w 36 2 so1_2 ((buN L C i).2.length) co1_2 ((buN L C i).2.flatMap vlC) ∧ (∀ k, ob so1_2 k → w0.heap.size ≤ k) ∧ (∀ k, ob so1_2 k → k ≠ b1) ∧ MTab w 65 36 2 vlC 115 2 rdC st1_1 ct1_1 TT1_1 ∧ (∀ k, mtb st1_1 TT1_1 k → w0.heap.size ≤ k) ∧ (∀ k, mtb st1_1 TT1_1 k → k ≠ b1) ∧ (∀ k, mtb st1_1 TT1_1 k → ob so1_2 k → False) ∧ (i ≤ L.length) ∧ (TT1_1.map SE.abs = memC (buN L C i).1)) _ ⟨0, none, 0, none, 0, ([] : List (SE Vl Rd)), rfl, rfl, ((B1.ext E1).ext E2), rfl, (((OwnS.nil w1 36 2).ext E1).ext E2), (fun _ h => ob_none h), (fun _ h => ob_none h), (MTab.nil w3 65 36 2 vlC 115 2 rdC), (fun _ h => mtb_nil h), (fun _ h => mtb_nil h), (fun _ h _ => mtb_nil h), Nat.zero_le _, rfl⟩ ?_
    rintro n1 ρ1 w4 A1 EL1 ⟨i, so1_2, co1_2, st1_1, ct1_1, TT1_1, rfl, hs1_33, BL1_1, ho1_2, ow1L_2, ge1L_2, ne1L_2_1, tw1L_1, tg1L_1, tn1L_1_1, ts1L_1_2, hi, hT⟩
    have F7 := F4.wide EL1
    have hzL1 := EL1.size
    refine wk_seq ?_
    refine wk_region ?_
    refine lx_value (want rfl) (rn_lss hs1_33 (A1.at 32 rfl rfl)) ?_
    refine lx_dec (fun hlt => ?_) (fun hlt => ?_)
    ·
     obtain ⟨x, hx⟩ := getx hlt
     obtain ⟨bx, ox, hsx, _, sx, cx, hcx, hpx⟩ := hl i x hx
     subst hsx
     have hxl := hLl x (List.mem_of_getElem? hx)
     have hst := suI_step hx
     have hsl := suI_le L (i + 1)
     obtain ⟨cq, hcq⟩ : ∃ q, C[i]? = some q := ⟨_, List.getElem?_eq_getElem (by omega)⟩
     have hbq := bo_at hcq
     obtain ⟨bc, oc, hsc, _, hcc⟩ := hc i cq hcq
     subst hsc
     have hTl : TT1_1.length = sumI (L.take i) := by have := congrArg List.length hT; rwa [List.length_map, memC_len, buN_len] at this
     refine lx_nil ?_
     refine wk_seq ?_
     refine wk_cond_t rfl ?_
     refine wk_skip ?_
     refine wk_seq ?_
     refine wk_block ?_
     refine wk_seq ?_
     refine wk_region ?_
     refine lx_value (want rfl) (mv_int hs1_33) ?_
     refine lx_value (want rfl) (rn_index i Tryz.underlying95 sz_77 (A1.at 31 rfl rfl) hs1_33 rfl (by omega)) ?_
     refine lx_value (want rfl) (rn_load1 ag_77 rfl (F7.cell (fun h => h) hcx)) ?_
     refine lx_value (want rfl) (as_int rfl) ?_
     refine lx_value (want rfl) (as_slice rfl) ?_
     refine lx_nil ?_
     refine wk_seq ?_
     refine wk_region ?_
     refine lx_call (want rfl) (ent_func cf_105 args0) (hole_ct w4) ?_
     rintro _ w5 E3 rfl
     have F8 := F7.ext E3
     have hz3 := E3.size
     refine lx_new (want rfl) (rn_alloc ze_36) ?_
     intro b2 w6 hb2 Eb2 B2 hlb2
     have F9 := F8.ext Eb2
     have hzb2 := Eb2.size
     have nb1 : ∀ k, ob so1_2 k → k ≠ b2 := fun k hk => by have := (ow1L_2).lt hk; omega
     have nb2 : ∀ k, mtb st1_1 TT1_1 k → k ≠ b2 := fun k hk => by have := (tw1L_1).lt hk; omega
     refine lx_set (want rfl) sz_36 rfl (t_agg rfl) rfl rfl rfl B2 (Nat.le_of_ble_eq_true rfl) ?_
     intro w7 Es4 Bs4
     have F10 := F9.set Es4 (by omega)
     have hzs4 := Es4.size
     refine lx_nil ?_
     refine wk_seq ?_
     refine wk_seq ?_
     refine wk_region ?_
     refine lx_value (want rfl) (mv_slice (A1.at 1 rfl rfl)) ?_
     refine lx_value (want rfl) (mv_int rfl) ?_
     refine lx_value (want rfl) (rn_index i Tryz.underlying96 sz_4 rfl rfl rfl (by omega)) ?_
     refine lx_value (want rfl) (rn_load1 ag_4 rfl (F10.cell (fun h => h) (hcc 0 _ rfl))) ?_
     refine lx_split (fun hcb => ?_) (fun hcb => ?_)
     ·
      have heq : endV (C.getD i false) = (3, 0) := by rw [hbq, hcb]; rfl
      refine lx_nil ?_
      refine wk_cond_t rfl ?_
      refine wk_region ?_
      refine lx_call (want rfl) (ent_func cf_106 args0) (none_ct w7) ?_
      rintro _ w8 E4 rfl
      have F11 := F10.ext E4
      have hz4 := E4.size
      refine lx_set (want rfl) sz_36 rfl (t_agg rfl) rfl rfl rfl (Bs4.ext E4) (Nat.le_of_ble_eq_true rfl) ?_
      intro w9 Es5 Bs5
      have F12 := F11.set Es5 (by omega)
      have hzs5 := Es5.size
      refine lx_nil ?_
      refine wk_seq ?_
      refine wk_region ?_
      refine lx_value (want rfl) (rn_makeFunc (argsC (t_pointer rfl) (argsC (t_pointer (A1.at 4 rfl rfl)) args0))) ?_
      refine lx_value (want rfl) (as_func rfl) ?_
      refine lx_nil ?_
      refine wk_seq ?_
      refine wk_region ?_
      refine lx_value (want rfl) (mv_slice ho1_2) ?_
      refine lx_value (want rfl) (mv_func rfl) ?_
      refine lx_value (want rfl) (mv_slice rfl) ?_
      refine lx_value (want rfl) (rn_len Tryz.underlying77 rfl) ?_
      refine lx_call (want rfl) (ent_value cf_107 rfl (argsC (t_int rfl) args0)) (((build2_ct x.length TT1_1.length (endV (C.getD i false)) b2 b1 _ _ w9 (by rw [heq]; exact Bs5) (((((BL1_1.ext E3).ext Eb2).ne Es4 (by omega)).ext E4).ne Es5 (by omega))).mono (fun _ _ h => h) (fun _ _ _ h => h.trans (congrArg (fun z : Vl => Value.agg #[.int .u8 z.1, .int .i64 z.2]) (show _ = restV (sumI (L.take i)) 0 x.length (endV (C.getD i false)) by rw [clo_0 _ x.length, hTl]))))) ?_
      rintro _ w10 E5 rfl
      have F13 := F12.ext E5
      have hz5 := E5.size
      refine lx_newS (want rfl) (rn_bslice (xs := [.tmp 49]) Tryz.underlying30 sz_36 ze_36 rfl (argsC (t_agg rfl) args0) (CL.cons rfl rfl CL.nil) rfl (Nat.le_of_ble_eq_true rfl)) ?_
      intro b3 w11 hb3 Eb3 B3 hlb3
      have F14 := F13.ext Eb3
      have hzb3 := Eb3.size
      have nb3 : ∀ k, ob so1_2 k → k ≠ b3 := fun k hk => by have := (ow1L_2).lt hk; omega
      have nb4 : ∀ k, mtb st1_1 TT1_1 k → k ≠ b3 := fun k hk => by have := (tw1L_1).lt hk; omega
      refine lx_append 16 (want rfl) Tryz.underlying30 ti_36 (by decide) rfl (by decide) rfl rfl (((((((ow1L_2.ext E3).ext Eb2).ne Es4 (fun h => nb1 _ h rfl)).ext E4).ne Es5 (fun h => nb1 _ h rfl)).ext E5).ext Eb3) ((Src.blk B3 rfl rfl)) (by rw [buN_len2 L C hi]; omega) ?_
      intro sq2 cq2 w12 AP2
      have EA2 := AP2.fr
      have ow2 := AP2.own
      have ge2 : ∀ k, ob sq2 k → w0.heap.size ≤ k := fun k hk => (AP2.blk k hk).elim (ge1L_2 k) (fun h => (Nat.le_trans F14.size h))
      have ne2_1 : ∀ k, ob sq2 k → k ≠ b1 := fun k hk => (AP2.blk k hk).elim (ne1L_2_1 k) (fun h => by have := ((((((((BL1_1.ext E3).ext Eb2).ne Es4 (by omega)).ext E4).ne Es5 (by omega)).ext E5).ext Eb3)).lt; omega)
      have ne2_2 : ∀ k, ob sq2 k → k ≠ b2 := fun k hk => (AP2.blk k hk).elim (nb1 k) (fun h => by have := (((Bs5.ext E5).ext Eb3)).lt; omega)
      have ne2_3 : ∀ k, ob sq2 k → k ≠ b3 := fun k hk => (AP2.blk k hk).elim (nb3 k) (fun h => by have := (B3).lt; omega)
      have F15 := F14.new EA2 ge1L_2
      have hzA2 := EA2.size
      have BA2_1 := (((((((BL1_1.ext E3).ext Eb2).ne Es4 (by omega)).ext E4).ne Es5 (by omega)).ext E5).ext Eb3).fr EA2 (fun h => ne1L_2_1 _ h rfl)
      have BA2_2 := ((Bs5.ext E5).ext Eb3).fr EA2 (fun h => nb1 _ h rfl)
      have BA2_3 := B3.fr EA2 (fun h => nb3 _ h rfl)
      have sa2_1 : ∀ k, mtb st1_1 TT1_1 k → ob sq2 k → False := fun k hk h2 => (AP2.blk k h2).elim (fun h => ts1L_1_2 k hk h) (fun h => by have := ((((((((tw1L_1.ext E3).ext Eb2).fr Es4 (fun k hk h => nb2 k hk h)).ext E4).fr Es5 (fun k hk h => nb2 k hk h)).ext E5).ext Eb3)).lt hk; omega)
      refine lx_value (want rfl) (as_slice rfl) ?_
      refine lx_nil ?_
      refine wk_seq ?_
      refine wk_region ?_
      refine lx_value (want rfl) (mv_slice rfl) ?_
      refine lx_value (want rfl) (rn_len Tryz.underlying77 rfl) ?_
      refine lx_value (want rfl) (mv_int rfl) ?_
      refine lx_nil ?_
      refine wk_block ?_
      refine wk_loopA [12, 13, 54, 55, 56, 57, 58, 59, 60, 61, 62, 63, 64, 65, 66, 67, 68, 69, 70, 71, 72, 73, 74, 75, 76, 77, 78, 79, 80, 81, 82, 83, 84, 85, 86] (fun j => no j ∨ w0.heap.size ≤ j) (fun nM ρ w => ∃ (j : Nat) (so2_2 : Option Addr) (co2_2 : Nat) (st2_1 : Option Addr) (ct2_1 : Nat) (TT2_1 : List (SE Vl Rd)), nM = x.length - j ∧ ρ 54 = .int .i64 j ∧ ρ 33 = .int .i64 i ∧ Blk w b1 [.slice st2_1 TT2_1.length ct2_1] 24 ∧ Blk w b2 (cellsOf BA2_2) 36 ∧ Blk w b3 (cellsOf BA2_3) 36 ∧ ρ 5 = .slice so2_2 ((buN L C (i + 1)).2.length) co2_2 ∧ OwnS w 36 2 so2_2 ((buN L C (i + 1)).2.length) co2_2 ((buN L C (i + 1)).2.flatMap vlC) ∧ (∀ k, ob so2_2 k → w0.heap.size ≤ k) ∧ (∀ k, ob so2_2 k → k ≠ b1) ∧ (∀ k, ob so2_2 k → k ≠ b2) ∧ (∀ k, ob so2_2 k → k ≠ b3) ∧ MTab w 65 36 2 vlC 115 2 rdC st2_1 ct2_1 TT2_1 ∧ (∀ k, mtb st2_1 TT2_1 k → w0.heap.size ≤ k) ∧ (∀ k, mtb st2_1 TT2_1 k → k ≠ b1) ∧ (∀ k, mtb st2_1 TT2_1 k → k ≠ b2) ∧ (∀ k, mtb st2_1 TT2_1 k → k ≠ b3) ∧ (∀ k, mtb st2_1 TT2_1 k → ob so2_2 k → False) ∧ (j ≤ x.length) ∧ (TT2_1.map SE.abs = memC (buI L C i x j))) _ ⟨0, sq2, cq2, st1_1, ct1_1, TT1_1, rfl, rfl, hs1_33, (by first | exact BA2_1 | (rw [List.length_set]; exact BA2_1)), BA2_2, BA2_3, (by rw [buN_2 hx]; exact slot_app rfl), (by rw [buN_2 hx]; exact own_more ow2 rfl), ge2, ne2_1, ne2_2, ne2_3, ((((((((tw1L_1.ext E3).ext Eb2).fr Es4 (fun k hk h => nb2 k hk h)).ext E4).fr Es5 (fun k hk h => nb2 k hk h)).ext E5).ext Eb3).fr EA2 (fun k hk h => ts1L_1_2 k hk h)), tg1L_1, tn1L_1_1, nb2, nb4, sa2_1, Nat.zero_le _, (by rw [buI_0]; exact hT)⟩ ?_
      rintro n2 ρ2 w13 A2 EL2 ⟨j, so2_2, co2_2, st2_1, ct2_1, TT2_1, rfl, hs2_54, hs2_33, BL2_1, BL2_2, BL2_3, ho2_2, ow2L_2, ge2L_2, ne2L_2_1, ne2L_2_2, ne2L_2_3, tw2L_1, tg2L_1, tn2L_1_1, tn2L_1_2, tn2L_1_3, ts2L_1_2, hj, hT2⟩
      have F16 := F15.wide EL2
      have hzL2 := EL2.size
      refine wk_seq ?_
      refine wk_region ?_
      refine lx_value (want rfl) (rn_lss hs2_54 (A2.at 53 rfl rfl)) ?_
      refine lx_dec (fun hlt2 => ?_) (fun hlt2 => ?_)
      ·
       obtain ⟨y, hy⟩ := getx hlt2
       obtain ⟨by_, oy, hsy, _, hcy⟩ := hpx j y hy
       subst hsy
       have hTl : TT2_1.length = sumI (L.take i) + j := by have := congrArg List.length hT2; rwa [List.length_map, memC_len, buI_len hj] at this
       refine lx_nil ?_
       refine wk_seq ?_
       refine wk_cond_t rfl ?_
       refine wk_skip ?_
       refine wk_seq ?_
       refine wk_block ?_
       refine wk_seq ?_
       refine wk_region ?_
       refine lx_value (want rfl) (mv_int hs2_54) ?_
       refine lx_value (want rfl) (rn_index j Tryz.underlying77 sz_3 (A2.at 52 rfl rfl) hs2_54 rfl (by omega)) ?_
       refine lx_value (want rfl) (rn_load1 ag_3 rfl (F16.cell (fun h => h) (hcy 0 _ rfl))) ?_
       refine lx_value (want rfl) (as_int rfl) ?_
       refine lx_value (want rfl) (as_int rfl) ?_
       refine lx_nil ?_
       refine wk_seq ?_
       have hTo := tw2L_1
       have hSl : ∀ k, (ob st2_1) k → k < w13.heap.size := fun k h => (tw2L_1).lt (.inl h)
       refine wk_mixA 9 8 (ob st2_1) (fun kS => match kS with | 3 => .val (.agg #[.int .u8 1, .int .i64 y]) | 4 => .val (.agg #[.int .u8 0, .int .i64 0]) | 5 => .any (fun I v w => ∃ s c, v = .slice s ([(1, y), (0, 0)] : List Vl).length c ∧ OwnS w 36 2 s ([(1, y), (0, 0)] : List Vl).length c (([(1, y), (0, 0)] : List Vl).flatMap vlC) ∧ ∀ k, ob s k → w13.heap.size ≤ k) | 6 => .any (fun I v w => ∃ s c, v = .agg #[.slice s ([(1, y), (0, 0)] : List Vl).length c, .slice none 0 0] ∧ OwnS w 36 2 s ([(1, y), (0, 0)] : List Vl).length c (([(1, y), (0, 0)] : List Vl).flatMap vlC) ∧ ∀ k, ob s k → w13.heap.size ≤ k) | 7 => .any (fun I v w => ∃ b s c, v = .slice (some ⟨b, 0, none⟩) 1 1 ∧ w13.heap.size ≤ b ∧ Blk w b [.slice s ([(1, y), (0, 0)] : List Vl).length c, .slice none 0 0] 65 ∧ OwnS w 36 2 s ([(1, y), (0, 0)] : List Vl).length c (([(1, y), (0, 0)] : List Vl).flatMap vlC) ∧ ∀ k, ob s k → w13.heap.size ≤ k) | 8 => .any (fun I v w => ∃ (T2 : List (SE Vl Rd)) (s1 : Option Addr) (c1 : Nat) (s : Option Addr) (c : Nat), v = .slice s T2.length c ∧ T2 = TT2_1 ++ [((s1, c1, ([(1, y), (0, 0)] : List Vl)), ((none : Option Addr), 0, ([] : List Rd)))] ∧ MTab w 65 36 2 vlC 115 2 rdC s c T2 ∧ ∀ k, mtb s T2 k → (mtb st2_1 TT2_1 k ∨ w13.heap.size ≤ k)) | _ => .none) (by kernel_rfl) (by kernel_rfl) (by intro kS G hk; (try dsimp only at hk); (split at hk) <;> first | (cases hk; done) | (injection hk with hk; subst hk; exact ⟨by intro j hkj I v w w' hR hG; first | exact hG | (obtain ⟨s, c, h1, h4, h5⟩ := hG; exact ⟨s, c, h1, h4.fr (mS hR) (fun k hk hs => by have := h5 k hk; have := hTo.out.lt hs; omega), h5⟩) | (obtain ⟨b, s, c, h1, h2, h3, h4, h5⟩ := hG; exact ⟨b, s, c, h1, h2, h3.fr (mS hR) (fun hs => by have := hTo.out.lt hs; omega), h4.fr (mS hR) (fun k hk hs => by have := h5 k hk; have := hTo.out.lt hs; omega), h5⟩) | (obtain ⟨s, c, h1, h4, h5⟩ := hG; exact ⟨s, c, h1, h4.fr (mS hR) (fun k hk hs => by have := h5 k hk; have := hTo.out.lt hs; omega), h5⟩) | (obtain ⟨T2, s1, c1, s, c, h1, h2, h3, h4⟩ := hG; exact ⟨T2, s1, c1, s, c, h1, h2, h3.ext (mT hkj hR), h4⟩), fun ⟨_, _, _, _, hs⟩ => by (try dsimp only at hs); split at hs <;> cases hs⟩)) (by intro kS s y G hk; (try dsimp only at hk); split at hk <;> cases hk) ?_
       simp only [List.take_succ_cons, List.take_zero, List.take_nil, List.drop_succ_cons, List.drop_zero, List.drop_nil]
       refine mx_calm rfl (want rfl) (fun u1 eu1 fu1 => rn_fieldAddr fa_24_0 (A2.at 4 rfl (A1.at 4 rfl rfl))) ?_
       refine mx_calm rfl (want rfl) (fun u2 eu2 fu2 => rn_load1Blk ag_22 rfl (BL2_1.fr (mD (by decide) eu2) (fun h => tn2L_1_1 _ (.inl h) rfl)) rfl) ?_
       refine mx_calm rfl (want rfl) (fun u3 eu3 fu3 => mv_int rfl) ?_
       refine mx_val rfl (want rfl) (fun u4 eu4 fu4 => do_call (ent_func cf_108 (argsC (t_int rfl) args0)) (integer_ct _ u4) (fun _ _ E h => ⟨(mE (by decide) E), h⟩)) ?_
       refine mx_val rfl (want rfl) (fun u5 eu5 fu5 => do_call (ent_func cf_105 args0) (hole_ct u5) (fun _ _ E h => ⟨(mE (by decide) E), h⟩)) ?_
       refine mx_any rfl rfl (want rfl) (fun u6 eu6 fu6 => (do_newS2 (rn_bslice (xs := [.tmp 62, .tmp 63]) Tryz.underlying30 sz_36 ze_36 rfl (argsC (t_agg rfl) (argsC (t_agg rfl) args0)) (CL.cons rfl rfl (CL.cons rfl rfl CL.nil)) rfl (Nat.le_of_ble_eq_true rfl)) (show _ ≤ _ from ((mD (by decide) eu6)).size)).mono (fun v w' h => ⟨(mE (by decide) h.1), by obtain ⟨h1, b, h2, h3, _, h4⟩ := h; exact ⟨_, _, h2, OwnS.full (n := 2) (size := 2) h4 rfl (by decide), fun k hk => by have := ob_some hk; omega⟩⟩)) (fun I64 v64 => ?_)
       refine mx_any rfl rfl (want rfl) (fun u7 eu7 fu7 => by obtain ⟨s, c, rfl, h23, hg23⟩ := fu7 64 _ rfl (show (64 : Nat) ∈ _ from by decide); exact do_value (rn_build1 (t_slice rfl) (fun w => bd_65_0 _ _ _ w)) ⟨(mE (by decide) (Fr.refl no _)), ⟨s, c, rfl, h23, hg23⟩⟩) (fun I65 v65 => ?_)
       refine mx_any rfl rfl (want rfl) (fun u8 eu8 fu8 => by obtain ⟨s, c, rfl, h23, hg23⟩ := fu8 65 _ rfl (show (65 : Nat) ∈ _ from by decide); exact (do_newS2 (rn_bslice (xs := [.tmp 65]) Tryz.underlying22 sz_65 ze_65 rfl (argsC (t_agg rfl) args0) (CL.cons rfl rfl CL.nil) rfl (Nat.le_of_ble_eq_true rfl)) (show _ ≤ _ from ((mD (by decide) eu8)).size)).mono (fun v w' h => ⟨(mE (by decide) h.1), by obtain ⟨h1, b, h2, h3, _, h4⟩ := h; exact ⟨b, s, c, h2, h3, h4, h23.ext h1, hg23⟩⟩)) (fun I66 v66 => ?_)
       refine mx_any rfl rfl (want rfl) (fun u9 eu9 fu9 => by obtain ⟨b29, s1, c1, rfl, hb29, hB29, h1, hg1⟩ := fu9 66 _ rfl (show (66 : Nat) ∈ _ from by decide); exact do_append 48 Tryz.underlying22 ti_65 (by decide) rfl (by decide) rfl rfl (tw2L_1.ext (mC eu9)).out (Src.blk hB29 rfl rfl) (by rw [hTl]; omega) (fun sA cA wA AP => ⟨(mF AP.fr), by obtain ⟨g1, g2⟩ := MTab.snoc (e := ((s1, c1, ([(1, y), (0, 0)] : List Vl)), (none, 0, []))) (tw2L_1.ext (mC eu9)) h1 (OwnS.nil _ _ _) (fun k _ h => ob_none h) (fun k hk hb => by have := hTo.lt hb; rcases hk with hk | hk; have := hg1 k hk; omega; exact ob_none hk) AP; exact ⟨_, s1, c1, sA, cA, by simp, rfl, g1, fun k hk => (g2 k hk).elim .inl (fun h => .inr (h.elim (fun h => h.elim (hg1 k) (fun h => ob_none h)) (fun h => Nat.le_trans (mC eu9).size h)))⟩⟩)) (fun I67 v67 => ?_)
       refine mx_nil (fun w14 E6' H1 HS => ?_)
       have E6 := mG E6'
       have F17 := F16.new E6 (fun k h => tg2L_1 k (.inl h))
       have hz6 := E6.size
       have hI67 := (HS.1 67 _ rfl).2
       have hI66 := (HS.1 66 _ rfl).2
       have hI65 := (HS.1 65 _ rfl).2
       have hI64 := (HS.1 64 _ rfl).2
       have hX67_66 := HS.2 67 _ 66 _ rfl rfl (show (67 : Nat) ≠ 66 from by decide)
       have hX67_65 := HS.2 67 _ 65 _ rfl rfl (show (67 : Nat) ≠ 65 from by decide)
       have hX67_64 := HS.2 67 _ 64 _ rfl rfl (show (67 : Nat) ≠ 64 from by decide)
       have hX66_65 := HS.2 66 _ 65 _ rfl rfl (show (66 : Nat) ≠ 65 from by decide)
       have hX66_64 := HS.2 66 _ 64 _ rfl rfl (show (66 : Nat) ≠ 64 from by decide)
       have hX65_64 := HS.2 65 _ 64 _ rfl rfl (show (65 : Nat) ≠ 64 from by decide)
       simp only at hI67
       simp only at hI66
       simp only at hI65
       simp only at hI64
       simp only at hX67_66
       simp only at hX67_65
       simp only at hX67_64
       simp only at hX66_65
       simp only at hX66_64
       simp only at hX65_64
       have g67 := H1 67 _ rfl
       obtain ⟨T2, s1, c1, sN, cN, rfl, hT2e, hTN, hIN⟩ := g67
       have tg2 : ∀ k, mtb sN T2 k → w0.heap.size ≤ k := fun k hk => (hIN k hk).elim (tg2L_1 k) (fun h => by omega)
       have tn2_1 : ∀ k, mtb sN T2 k → k ≠ b1 := fun k hk => (hIN k hk).elim (tn2L_1_1 k) (fun h => by have := (BL2_1).lt; omega)
       have tn2_2 : ∀ k, mtb sN T2 k → k ≠ b2 := fun k hk => (hIN k hk).elim (tn2L_1_2 k) (fun h => by have := (BL2_2).lt; omega)
       have tn2_3 : ∀ k, mtb sN T2 k → k ≠ b3 := fun k hk => (hIN k hk).elim (tn2L_1_3 k) (fun h => by have := (BL2_3).lt; omega)
       have ts2_2 : ∀ k, mtb sN T2 k → ob so2_2 k → False := fun k hk h2 => (hIN k hk).elim (fun h => ts2L_1_2 k h h2) (fun h => by have := (ow2L_2).lt h2; omega)
       have g66 := H1 66 _ rfl
       have g65 := H1 65 _ rfl
       have g64 := H1 64 _ rfl
       refine lx_value (want rfl) (rn_fieldAddr fa_24_0 (A2.at 4 rfl (A1.at 4 rfl rfl))) ?_
       refine lx_set (want rfl) sz_22 rfl (t_slice rfl) rfl rfl rfl (BL2_1.fr E6 (fun h => tn2L_1_1 _ (.inl h) rfl)) (Nat.le_of_ble_eq_true rfl) ?_
       intro w15 Es6 Bs6
       have F18 := F17.set Es6 (by omega)
       have hzs6 := Es6.size
       refine lx_nil ?_
       have hTlN : T2.length = (sumI (L.take i) + j) + 1 := by rw [hT2e, List.length_append, hTl]; rfl
       have he1 := bu_at hT2e hTl
       obtain ⟨bT, oT, hsT, hcA, hcB⟩ := ((hTN.fr Es6 (fun k hk h => tn2_1 k hk h))).get he1
       subst hsT
       obtain ⟨bA, oA, hsA⟩ := own_some (((hTN.fr Es6 (fun k hk h => tn2_1 k hk h))).ownA _ _ he1) (show 0 < 2 by decide)
       subst hsA
       refine wk_mix 16 (fun kS => match kS with | 15 => .val (.agg #[.int .u8 (restV (sumI (L.take i)) (j + 1) x.length (endV (C.getD i false))).1, .int .i64 (restV (sumI (L.take i)) (j + 1) x.length (endV (C.getD i false))).2]) | _ => .none) (by kernel_rfl) (by kernel_rfl) (by intro kS G hk; (try dsimp only at hk); (split at hk) <;> first | (cases hk; done) | (injection hk with hk; subst hk; exact ⟨by intro j hkj I v w w' hR hG; first | exact hG, fun ⟨_, _, _, _, hs⟩ => by (try dsimp only at hs); split at hs <;> cases hs⟩)) (by intro kS s y G hk; (try dsimp only at hk); split at hk <;> cases hk) ?_
       simp only [List.take_succ_cons, List.take_zero, List.take_nil, List.drop_succ_cons, List.drop_zero, List.drop_nil]
       refine mx_calm rfl (want rfl) (fun u10 eu10 fu10 => rn_fieldAddr fa_24_0 (A2.at 4 rfl (A1.at 4 rfl rfl))) ?_
       refine mx_calm rfl (want rfl) (fun u11 eu11 fu11 => rn_load1Blk ag_22 rfl (Bs6.ext ((ext_drawn _).trans' eu11)) rfl) ?_
       refine mx_calm rfl (want rfl) (fun u12 eu12 fu12 => rn_fieldAddr fa_24_0 (A2.at 4 rfl (A1.at 4 rfl rfl))) ?_
       refine mx_calm rfl (want rfl) (fun u13 eu13 fu13 => rn_load1Blk ag_22 rfl (Bs6.ext ((ext_drawn _).trans' eu13)) rfl) ?_
       refine mx_calm rfl (want rfl) (fun u14 eu14 fu14 => rn_len Tryz.underlying22 rfl) ?_
       refine mx_calm (v := .int .i64 (((sumI (L.take i) + j) : Nat) : Int)) rfl (want rfl) (fun u15 eu15 fu15 => (rn_subE (n := 1) (sumI (L.take i) + j) rfl rfl (by omega))) ?_
       refine mx_calm rfl (want rfl) (fun u16 eu16 fu16 => rn_index (sumI (L.take i) + j) Tryz.underlying22 sz_65 rfl rfl rfl (by omega)) ?_
       refine mx_calm rfl (want rfl) (fun u17 eu17 fu17 => rn_fieldAddr fa_65_0 rfl) ?_
       refine mx_calm rfl (want rfl) (fun u18 eu18 fu18 => rn_load1 ag_30 rfl (show _ = some (Value.slice (some (⟨bA, oA, none⟩ : Addr)) 2 c1) from MTab.cellA ((hTN.fr Es6 (fun k hk h => tn2_1 k hk h)).ext ((ext_drawn _).trans' eu18)) he1)) ?_
       refine mx_calm rfl (want rfl) (fun u19 eu19 fu19 => mv_func (A2.at 11 rfl rfl)) ?_
       refine mx_calm rfl (want rfl) (fun u20 eu20 fu20 => mv_slice (A2.at 9 rfl rfl)) ?_
       refine mx_calm rfl (want rfl) (fun u21 eu21 fu21 => rn_len Tryz.underlying77 rfl) ?_
       refine mx_calm (v := .int .i64 ((x.length - 1 : Nat) : Int)) rfl (want rfl) (fun u22 eu22 fu22 => (rn_subN (n := 1) rfl rfl (by omega))) ?_
       refine mx_calm rfl (want rfl) (fun u23 eu23 fu23 => mv_int rfl) ?_
       refine mx_calm (v := .int .i64 ((x.length - 1 - j : Nat) : Int)) rfl (want rfl) (fun u24 eu24 fu24 => (rn_subN rfl rfl (by omega))) ?_
       refine mx_val rfl (want rfl) (fun u25 eu25 fu25 => do_call (ent_value cf_107 rfl (argsC (t_int rfl) args0)) (((build2_ct (x.length - 1 - j) T2.length (endV (C.getD i false)) b2 b1 _ _ u25 (by rw [heq]; exact (((BL2_2.fr E6 (fun h => tn2L_1_2 _ (.inl h) rfl)).ne Es6 (by omega)).ext ((ext_drawn _).trans' eu25))) (Bs6.ext ((ext_drawn _).trans' eu25))).mono (fun _ _ h => h) (fun _ _ _ h => h.trans (congrArg (fun z : Vl => Value.agg #[.int .u8 z.1, .int .i64 z.2]) (show _ = restV (sumI (L.take i)) (j + 1) x.length (endV (C.getD i false)) by rw [clo_j _ (show j < x.length by omega), hTlN, Nat.add_assoc]))))) (fun _ _ E h => ⟨E, h⟩)) ?_
       refine mx_nil (fun w16 E7' H2 HS => ?_)
       have E7 := (ext_drawn _).trans' E7'
       have F19 := F18.ext E7
       have hz7 := E7.size
       refine lx_value (want rfl) (rn_index 1 Tryz.underlying30 sz_36 rfl rfl rfl (show 1 < 2 by decide)) ?_
       have hM3 := ((hTN.fr Es6 (fun k hk h => tn2_1 k hk h)).ext E7)
       refine lx_owncell (j := 1 * 2) (want rfl) sz_36 rfl (t_agg rfl) rfl rfl rfl (hM3.ownA _ _ he1) (show 1 * 2 + 2 ≤ 2 * 2 by decide) ?_
       intro w17 E8' HO3
       have E8 : Fr (ob (some (⟨bA, oA, none⟩ : Addr))) _ _ := E8'.mono (fun i _ hi => ⟨_, _, by subst hi; rfl⟩)
       have F20 := F19.new E8 (fun k h => tg2 k (.inr ⟨_, _, he1, .inl h⟩))
       have hz8 := E8.size
       obtain ⟨tw3, ti3'⟩ := MTab.set (e' := (((some (⟨bA, oA, none⟩ : Addr)), c1, ([(1, y), (0, 0)] : List Vl).set 1 (restV (sumI (L.take i)) (j + 1) x.length (endV (C.getD i false)))), ((none : Option Addr), 0, ([] : List Rd)))) hM3 he1 (E8.mono (fun k _ h => .inl h)) (by show OwnS _ _ _ _ (List.set _ _ _).length _ ((List.set _ _ _).flatMap vlC); rw [flat_setV (show 1 < 2 by decide), List.length_set]; exact HO3) ((hM3.ownB _ _ he1).fr E8 (fun k h1 h2 => hM3.sepAB _ _ he1 k h2 h1)) (fun k h1 h2 => hM3.sepAB _ _ he1 k h1 h2) (fun k h => .inl h) (Fr.refl _ _) (by rw [flat_same he1 (by simp [SE.vs, TE.v])]; exact hM3.out.fr E8 (fun k h1 h2 => hM3.sep _ _ he1 k (.inl h2) h1))
       have ti3 : ∀ k, mtb (some (⟨bT, oT, none⟩ : Addr)) (T2.set (sumI (L.take i) + j) (((some (⟨bA, oA, none⟩ : Addr)), c1, ([(1, y), (0, 0)] : List Vl).set 1 (restV (sumI (L.take i)) (j + 1) x.length (endV (C.getD i false)))), ((none : Option Addr), 0, ([] : List Rd)))) k → (mtb (some (⟨bT, oT, none⟩ : Addr)) T2 k ∨ w17.heap.size ≤ k) := fun k hk => (ti3' k hk).elim .inl (fun h => .inl (.inr ⟨_, _, he1, h⟩))
       have tg3 : ∀ k, mtb (some (⟨bT, oT, none⟩ : Addr)) (T2.set (sumI (L.take i) + j) (((some (⟨bA, oA, none⟩ : Addr)), c1, ([(1, y), (0, 0)] : List Vl).set 1 (restV (sumI (L.take i)) (j + 1) x.length (endV (C.getD i false)))), ((none : Option Addr), 0, ([] : List Rd)))) k → w0.heap.size ≤ k := fun k hk => (ti3 k hk).elim (tg2 k) (fun h => by omega)
       have tn3_1 : ∀ k, mtb (some (⟨bT, oT, none⟩ : Addr)) (T2.set (sumI (L.take i) + j) (((some (⟨bA, oA, none⟩ : Addr)), c1, ([(1, y), (0, 0)] : List Vl).set 1 (restV (sumI (L.take i)) (j + 1) x.length (endV (C.getD i false)))), ((none : Option Addr), 0, ([] : List Rd)))) k → k ≠ b1 := fun k hk => (ti3 k hk).elim (tn2_1 k) (fun h => by have := (Bs6).lt; omega)
       have tn3_2 : ∀ k, mtb (some (⟨bT, oT, none⟩ : Addr)) (T2.set (sumI (L.take i) + j) (((some (⟨bA, oA, none⟩ : Addr)), c1, ([(1, y), (0, 0)] : List Vl).set 1 (restV (sumI (L.take i)) (j + 1) x.length (endV (C.getD i false)))), ((none : Option Addr), 0, ([] : List Rd)))) k → k ≠ b2 := fun k hk => (ti3 k hk).elim (tn2_2 k) (fun h => by have := (BL2_2).lt; omega)
       have tn3_3 : ∀ k, mtb (some (⟨bT, oT, none⟩ : Addr)) (T2.set (sumI (L.take i) + j) (((some (⟨bA, oA, none⟩ : Addr)), c1, ([(1, y), (0, 0)] : List Vl).set 1 (restV (sumI (L.take i)) (j + 1) x.length (endV (C.getD i false)))), ((none : Option Addr), 0, ([] : List Rd)))) k → k ≠ b3 := fun k hk => (ti3 k hk).elim (tn2_3 k) (fun h => by have := (BL2_3).lt; omega)
       have ts3_2 : ∀ k, mtb (some (⟨bT, oT, none⟩ : Addr)) (T2.set (sumI (L.take i) + j) (((some (⟨bA, oA, none⟩ : Addr)), c1, ([(1, y), (0, 0)] : List Vl).set 1 (restV (sumI (L.take i)) (j + 1) x.length (endV (C.getD i false)))), ((none : Option Addr), 0, ([] : List Rd)))) k → ob so2_2 k → False := fun k hk h2 => (ti3 k hk).elim (fun h => ts2_2 k h h2) (fun h => by have := (ow2L_2).lt h2; omega)
       refine lx_nil ?_
       refine wk_region ?_
       refine lx_value (want rfl) (rn_add hs2_54 rfl (by omega)) ?_
       refine lx_value (want rfl) (mv_int rfl) ?_
       refine lx_nil ?_
       exact ⟨rfl, (((((((((((((((((((((((((((((((((((((A2.up rfl _).up rfl _).up rfl _).up rfl _).up rfl _).up rfl _).up rfl _).up rfl _).up rfl _).up rfl _).up rfl _).up rfl _).up rfl _).up rfl _).up rfl _).up rfl _).none _).up rfl _).up rfl _).up rfl _).up rfl _).up rfl _).up rfl _).up rfl _).up rfl _).up rfl _).up rfl _).up rfl _).up rfl _).up rfl _).up rfl _).up rfl _).up rfl _).up rfl _).none _).up rfl _).up rfl _), Fr.between F15 F20 (by omega), _, (by omega), j + 1, so2_2, co2_2, (some (⟨bT, oT, none⟩ : Addr)), cN, (T2.set (sumI (L.take i) + j) (((some (⟨bA, oA, none⟩ : Addr)), c1, ([(1, y), (0, 0)] : List Vl).set 1 (restV (sumI (L.take i)) (j + 1) x.length (endV (C.getD i false)))), ((none : Option Addr), 0, ([] : List Rd)))), rfl, rfl, hs2_33, (by first | exact ((Bs6.ext E7).fr E8 (fun h => tn2_1 _ (.inr ⟨_, _, he1, .inl h⟩) rfl)) | (rw [List.length_set]; exact ((Bs6.ext E7).fr E8 (fun h => tn2_1 _ (.inr ⟨_, _, he1, .inl h⟩) rfl)))), ((((BL2_2.fr E6 (fun h => tn2L_1_2 _ (.inl h) rfl)).ne Es6 (by omega)).ext E7).fr E8 (fun h => tn2_2 _ (.inr ⟨_, _, he1, .inl h⟩) rfl)), ((((BL2_3.fr E6 (fun h => tn2L_1_3 _ (.inl h) rfl)).ne Es6 (by omega)).ext E7).fr E8 (fun h => tn2_3 _ (.inr ⟨_, _, he1, .inl h⟩) rfl)), ho2_2, ((((ow2L_2.fr E6 (fun k h1 h => ts2L_1_2 k (.inl h) h1)).ne Es6 (fun h => ne2L_2_1 _ h rfl)).ext E7).fr E8 (fun k h1 h => ts2_2 k (.inr ⟨_, _, he1, .inl h⟩) h1)), ge2L_2, ne2L_2_1, ne2L_2_2, ne2L_2_3, tw3, tg3, tn3_1, tn3_2, tn3_3, ts3_2, by omega, (bu_stepP hT2 hT2e hTl hy rfl)⟩
      ·
       refine lx_nil ?_
       refine wk_seq ?_
       refine wk_cond_f rfl ?_
       refine wk_exit ?_
       refine wk_region ?_
       refine lx_value (want rfl) (rn_add hs2_33 rfl (by omega)) ?_
       refine lx_value (want rfl) (mv_int rfl) ?_
       refine lx_nil ?_
       exact ⟨rfl, ((((((((((((((((((((((((((((((((A1.up rfl _).up rfl _).up rfl _).up rfl _).up rfl _).up rfl _).up rfl _).up rfl _).none _).up rfl _).up rfl _).up rfl _).up rfl _).up rfl _).none _).up rfl _).up rfl _).up rfl _).up rfl _).up rfl _).up rfl _).up rfl _).up rfl _).up rfl _).up rfl _).up rfl _).up rfl _).up rfl _).loop A2 rfl).up rfl _).up rfl _).up rfl _), Fr.between F4 F16 (by omega), _, (by omega), i + 1, so2_2, co2_2, st2_1, ct2_1, TT2_1, rfl, rfl, BL2_1, ho2_2, ow2L_2, ge2L_2, ne2L_2_1, tw2L_1, tg2L_1, tn2L_1_1, ts2L_1_2, by omega, (by rw [← buI_end hx hlt2]; exact hT2)⟩
     ·
      have heq : endV (C.getD i false) = (0, 0) := by rw [hbq, hcb]; rfl
      refine lx_nil ?_
      refine wk_cond_f rfl ?_
      refine wk_skip ?_
      refine wk_seq ?_
      refine wk_region ?_
      refine lx_value (want rfl) (rn_makeFunc (argsC (t_pointer rfl) (argsC (t_pointer (A1.at 4 rfl rfl)) args0))) ?_
      refine lx_value (want rfl) (as_func rfl) ?_
      refine lx_nil ?_
      refine wk_seq ?_
      refine wk_region ?_
      refine lx_value (want rfl) (mv_slice ho1_2) ?_
      refine lx_value (want rfl) (mv_func rfl) ?_
      refine lx_value (want rfl) (mv_slice rfl) ?_
      refine lx_value (want rfl) (rn_len Tryz.underlying77 rfl) ?_
      refine lx_call (want rfl) (ent_value cf_107 rfl (argsC (t_int rfl) args0)) (((build2_ct x.length TT1_1.length (endV (C.getD i false)) b2 b1 _ _ w7 (by rw [heq]; exact Bs4) (((BL1_1.ext E3).ext Eb2).ne Es4 (by omega))).mono (fun _ _ h => h) (fun _ _ _ h => h.trans (congrArg (fun z : Vl => Value.agg #[.int .u8 z.1, .int .i64 z.2]) (show _ = restV (sumI (L.take i)) 0 x.length (endV (C.getD i false)) by rw [clo_0 _ x.length, hTl]))))) ?_
      rintro _ w8 E9 rfl
      have F21 := F10.ext E9
      have hz9 := E9.size
      refine lx_newS (want rfl) (rn_bslice (xs := [.tmp 49]) Tryz.underlying30 sz_36 ze_36 rfl (argsC (t_agg rfl) args0) (CL.cons rfl rfl CL.nil) rfl (Nat.le_of_ble_eq_true rfl)) ?_
      intro b4 w9 hb4 Eb4 B4 hlb4
      have F22 := F21.ext Eb4
      have hzb4 := Eb4.size
      have nb5 : ∀ k, ob so1_2 k → k ≠ b4 := fun k hk => by have := (ow1L_2).lt hk; omega
      have nb6 : ∀ k, mtb st1_1 TT1_1 k → k ≠ b4 := fun k hk => by have := (tw1L_1).lt hk; omega
      refine lx_append 16 (want rfl) Tryz.underlying30 ti_36 (by decide) rfl (by decide) rfl rfl (((((ow1L_2.ext E3).ext Eb2).ne Es4 (fun h => nb1 _ h rfl)).ext E9).ext Eb4) ((Src.blk B4 rfl rfl)) (by rw [buN_len2 L C hi]; omega) ?_
      intro sq4 cq4 w10 AP4
      have EA4 := AP4.fr
      have ow4 := AP4.own
      have ge4 : ∀ k, ob sq4 k → w0.heap.size ≤ k := fun k hk => (AP4.blk k hk).elim (ge1L_2 k) (fun h => (Nat.le_trans F22.size h))
      have ne4_1 : ∀ k, ob sq4 k → k ≠ b1 := fun k hk => (AP4.blk k hk).elim (ne1L_2_1 k) (fun h => by have := ((((((BL1_1.ext E3).ext Eb2).ne Es4 (by omega)).ext E9).ext Eb4)).lt; omega)
      have ne4_2 : ∀ k, ob sq4 k → k ≠ b2 := fun k hk => (AP4.blk k hk).elim (nb1 k) (fun h => by have := (((Bs4.ext E9).ext Eb4)).lt; omega)
      have ne4_4 : ∀ k, ob sq4 k → k ≠ b4 := fun k hk => (AP4.blk k hk).elim (nb5 k) (fun h => by have := (B4).lt; omega)
      have F23 := F22.new EA4 ge1L_2
      have hzA4 := EA4.size
      have BA4_1 := (((((BL1_1.ext E3).ext Eb2).ne Es4 (by omega)).ext E9).ext Eb4).fr EA4 (fun h => ne1L_2_1 _ h rfl)
      have BA4_2 := ((Bs4.ext E9).ext Eb4).fr EA4 (fun h => nb1 _ h rfl)
      have BA4_4 := B4.fr EA4 (fun h => nb5 _ h rfl)
      have sa4_1 : ∀ k, mtb st1_1 TT1_1 k → ob sq4 k → False := fun k hk h2 => (AP4.blk k h2).elim (fun h => ts1L_1_2 k hk h) (fun h => by have := ((((((tw1L_1.ext E3).ext Eb2).fr Es4 (fun k hk h => nb2 k hk h)).ext E9).ext Eb4)).lt hk; omega)
      refine lx_value (want rfl) (as_slice rfl) ?_
      refine lx_nil ?_
      refine wk_seq ?_
      refine wk_region ?_
      refine lx_value (want rfl) (mv_slice rfl) ?_
      refine lx_value (want rfl) (rn_len Tryz.underlying77 rfl) ?_
      refine lx_value (want rfl) (mv_int rfl) ?_
      refine lx_nil ?_
      refine wk_block ?_
      refine wk_loopA [12, 13, 54, 55, 56, 57, 58, 59, 60, 61, 62, 63, 64, 65, 66, 67, 68, 69, 70, 71, 72, 73, 74, 75, 76, 77, 78, 79, 80, 81, 82, 83, 84, 85, 86] (fun j => no j ∨ w0.heap.size ≤ j) (fun nM ρ w => ∃ (j : Nat) (so3_2 : Option Addr) (co3_2 : Nat) (st3_1 : Option Addr) (ct3_1 : Nat) (TT3_1 : List (SE Vl Rd)), nM = x.length - j ∧ ρ 54 = .int .i64 j ∧ ρ 33 = .int .i64 i ∧ Blk w b1 [.slice st3_1 TT3_1.length ct3_1] 24 ∧ Blk w b2 (cellsOf BA4_2) 36 ∧ Blk w b4 (cellsOf BA4_4) 36 ∧ ρ 5 = .slice so3_2 ((buN L C (i + 1)).2.length) co3_2 ∧ OwnS w 36 2 so3_2 ((buN L C (i + 1)).2.length) co3_2 ((buN L C (i + 1)).2.flatMap vlC) ∧ (∀ k, ob so3_2 k → w0.heap.size ≤ k) ∧ (∀ k, ob so3_2 k → k ≠ b1) ∧ (∀ k, ob so3_2 k → k ≠ b2) ∧ (∀ k, ob so3_2 k → k ≠ b4) ∧ MTab w 65 36 2 vlC 115 2 rdC st3_1 ct3_1 TT3_1 ∧ (∀ k, mtb st3_1 TT3_1 k → w0.heap.size ≤ k) ∧ (∀ k, mtb st3_1 TT3_1 k → k ≠ b1) ∧ (∀ k, mtb st3_1 TT3_1 k → k ≠ b2) ∧ (∀ k, mtb st3_1 TT3_1 k → k ≠ b4) ∧ (∀ k, mtb st3_1 TT3_1 k → ob so3_2 k → False) ∧ (j ≤ x.length) ∧ (TT3_1.map SE.abs = memC (buI L C i x j))) _ ⟨0, sq4, cq4, st1_1, ct1_1, TT1_1, rfl, rfl, hs1_33, (by first | exact BA4_1 | (rw [List.length_set]; exact BA4_1)), BA4_2, BA4_4, (by rw [buN_2 hx]; exact slot_app rfl), (by rw [buN_2 hx]; exact own_more ow4 rfl), ge4, ne4_1, ne4_2, ne4_4, ((((((tw1L_1.ext E3).ext Eb2).fr Es4 (fun k hk h => nb2 k hk h)).ext E9).ext Eb4).fr EA4 (fun k hk h => ts1L_1_2 k hk h)), tg1L_1, tn1L_1_1, nb2, nb6, sa4_1, Nat.zero_le _, (by rw [buI_0]; exact hT)⟩ ?_
      rintro n3 ρ3 w11 A3 EL3 ⟨j, so3_2, co3_2, st3_1, ct3_1, TT3_1, rfl, hs3_54, hs3_33, BL3_1, BL3_2, BL3_4, ho3_2, ow3L_2, ge3L_2, ne3L_2_1, ne3L_2_2, ne3L_2_4, tw3L_1, tg3L_1, tn3L_1_1, tn3L_1_2, tn3L_1_4, ts3L_1_2, hj, hT2⟩
      have F24 := F23.wide EL3
      have hzL3 := EL3.size
      refine wk_seq ?_
      refine wk_region ?_
      refine lx_value (want rfl) (rn_lss hs3_54 (A3.at 53 rfl rfl)) ?_
      refine lx_dec (fun hlt2 => ?_) (fun hlt2 => ?_)
      ·
       obtain ⟨y, hy⟩ := getx hlt2
       obtain ⟨by_, oy, hsy, _, hcy⟩ := hpx j y hy
       subst hsy
       have hTl : TT3_1.length = sumI (L.take i) + j := by have := congrArg List.length hT2; rwa [List.length_map, memC_len, buI_len hj] at this
       refine lx_nil ?_
       refine wk_seq ?_
       refine wk_cond_t rfl ?_
       refine wk_skip ?_
       refine wk_seq ?_
       refine wk_block ?_
       refine wk_seq ?_
       refine wk_region ?_
       refine lx_value (want rfl) (mv_int hs3_54) ?_
       refine lx_value (want rfl) (rn_index j Tryz.underlying77 sz_3 (A3.at 52 rfl rfl) hs3_54 rfl (by omega)) ?_
       refine lx_value (want rfl) (rn_load1 ag_3 rfl (F24.cell (fun h => h) (hcy 0 _ rfl))) ?_
       refine lx_value (want rfl) (as_int rfl) ?_
       refine lx_value (want rfl) (as_int rfl) ?_
       refine lx_nil ?_
       refine wk_seq ?_
       have hTo := tw3L_1
       have hSl : ∀ k, (ob st3_1) k → k < w11.heap.size := fun k h => (tw3L_1).lt (.inl h)
       refine wk_mixA 9 8 (ob st3_1) (fun kS => match kS with | 3 => .val (.agg #[.int .u8 1, .int .i64 y]) | 4 => .val (.agg #[.int .u8 0, .int .i64 0]) | 5 => .any (fun I v w => ∃ s c, v = .slice s ([(1, y), (0, 0)] : List Vl).length c ∧ OwnS w 36 2 s ([(1, y), (0, 0)] : List Vl).length c (([(1, y), (0, 0)] : List Vl).flatMap vlC) ∧ ∀ k, ob s k → w11.heap.size ≤ k) | 6 => .any (fun I v w => ∃ s c, v = .agg #[.slice s ([(1, y), (0, 0)] : List Vl).length c, .slice none 0 0] ∧ OwnS w 36 2 s ([(1, y), (0, 0)] : List Vl).length c (([(1, y), (0, 0)] : List Vl).flatMap vlC) ∧ ∀ k, ob s k → w11.heap.size ≤ k) | 7 => .any (fun I v w => ∃ b s c, v = .slice (some ⟨b, 0, none⟩) 1 1 ∧ w11.heap.size ≤ b ∧ Blk w b [.slice s ([(1, y), (0, 0)] : List Vl).length c, .slice none 0 0] 65 ∧ OwnS w 36 2 s ([(1, y), (0, 0)] : List Vl).length c (([(1, y), (0, 0)] : List Vl).flatMap vlC) ∧ ∀ k, ob s k → w11.heap.size ≤ k) | 8 => .any (fun I v w => ∃ (T2 : List (SE Vl Rd)) (s1 : Option Addr) (c1 : Nat) (s : Option Addr) (c : Nat), v = .slice s T2.length c ∧ T2 = TT3_1 ++ [((s1, c1, ([(1, y), (0, 0)] : List Vl)), ((none : Option Addr), 0, ([] : List Rd)))] ∧ MTab w 65 36 2 vlC 115 2 rdC s c T2 ∧ ∀ k, mtb s T2 k → (mtb st3_1 TT3_1 k ∨ w11.heap.size ≤ k)) | _ => .none) (by kernel_rfl) (by kernel_rfl) (by intro kS G hk; (try dsimp only at hk); (split at hk) <;> first | (cases hk; done) | (injection hk with hk; subst hk; exact ⟨by intro j hkj I v w w' hR hG; first | exact hG | (obtain ⟨s, c, h1, h4, h5⟩ := hG; exact ⟨s, c, h1, h4.fr (mS hR) (fun k hk hs => by have := h5 k hk; have := hTo.out.lt hs; omega), h5⟩) | (obtain ⟨b, s, c, h1, h2, h3, h4, h5⟩ := hG; exact ⟨b, s, c, h1, h2, h3.fr (mS hR) (fun hs => by have := hTo.out.lt hs; omega), h4.fr (mS hR) (fun k hk hs => by have := h5 k hk; have := hTo.out.lt hs; omega), h5⟩) | (obtain ⟨s, c, h1, h4, h5⟩ := hG; exact ⟨s, c, h1, h4.fr (mS hR) (fun k hk hs => by have := h5 k hk; have := hTo.out.lt hs; omega), h5⟩) | (obtain ⟨T2, s1, c1, s, c, h1, h2, h3, h4⟩ := hG; exact ⟨T2, s1, c1, s, c, h1, h2, h3.ext (mT hkj hR), h4⟩), fun ⟨_, _, _, _, hs⟩ => by (try dsimp only at hs); split at hs <;> cases hs⟩)) (by intro kS s y G hk; (try dsimp only at hk); split at hk <;> cases hk) ?_
       simp only [List.take_succ_cons, List.take_zero, List.take_nil, List.drop_succ_cons, List.drop_zero, List.drop_nil]
       refine mx_calm rfl (want rfl) (fun u26 eu26 fu26 => rn_fieldAddr fa_24_0 (A3.at 4 rfl (A1.at 4 rfl rfl))) ?_
       refine mx_calm rfl (want rfl) (fun u27 eu27 fu27 => rn_load1Blk ag_22 rfl (BL3_1.fr (mD (by decide) eu27) (fun h => tn3L_1_1 _ (.inl h) rfl)) rfl) ?_
       refine mx_calm rfl (want rfl) (fun u28 eu28 fu28 => mv_int rfl) ?_
       refine mx_val rfl (want rfl) (fun u29 eu29 fu29 => do_call (ent_func cf_108 (argsC (t_int rfl) args0)) (integer_ct _ u29) (fun _ _ E h => ⟨(mE (by decide) E), h⟩)) ?_
       refine mx_val rfl (want rfl) (fun u30 eu30 fu30 => do_call (ent_func cf_105 args0) (hole_ct u30) (fun _ _ E h => ⟨(mE (by decide) E), h⟩)) ?_
       refine mx_any rfl rfl (want rfl) (fun u31 eu31 fu31 => (do_newS2 (rn_bslice (xs := [.tmp 62, .tmp 63]) Tryz.underlying30 sz_36 ze_36 rfl (argsC (t_agg rfl) (argsC (t_agg rfl) args0)) (CL.cons rfl rfl (CL.cons rfl rfl CL.nil)) rfl (Nat.le_of_ble_eq_true rfl)) (show _ ≤ _ from ((mD (by decide) eu31)).size)).mono (fun v w' h => ⟨(mE (by decide) h.1), by obtain ⟨h1, b, h2, h3, _, h4⟩ := h; exact ⟨_, _, h2, OwnS.full (n := 2) (size := 2) h4 rfl (by decide), fun k hk => by have := ob_some hk; omega⟩⟩)) (fun I64 v64 => ?_)
       refine mx_any rfl rfl (want rfl) (fun u32 eu32 fu32 => by obtain ⟨s, c, rfl, h23, hg23⟩ := fu32 64 _ rfl (show (64 : Nat) ∈ _ from by decide); exact do_value (rn_build1 (t_slice rfl) (fun w => bd_65_0 _ _ _ w)) ⟨(mE (by decide) (Fr.refl no _)), ⟨s, c, rfl, h23, hg23⟩⟩) (fun I65 v65 => ?_)
       refine mx_any rfl rfl (want rfl) (fun u33 eu33 fu33 => by obtain ⟨s, c, rfl, h23, hg23⟩ := fu33 65 _ rfl (show (65 : Nat) ∈ _ from by decide); exact (do_newS2 (rn_bslice (xs := [.tmp 65]) Tryz.underlying22 sz_65 ze_65 rfl (argsC (t_agg rfl) args0) (CL.cons rfl rfl CL.nil) rfl (Nat.le_of_ble_eq_true rfl)) (show _ ≤ _ from ((mD (by decide) eu33)).size)).mono (fun v w' h => ⟨(mE (by decide) h.1), by obtain ⟨h1, b, h2, h3, _, h4⟩ := h; exact ⟨b, s, c, h2, h3, h4, h23.ext h1, hg23⟩⟩)) (fun I66 v66 => ?_)
       refine mx_any rfl rfl (want rfl) (fun u34 eu34 fu34 => by obtain ⟨b29, s1, c1, rfl, hb29, hB29, h1, hg1⟩ := fu34 66 _ rfl (show (66 : Nat) ∈ _ from by decide); exact do_append 48 Tryz.underlying22 ti_65 (by decide) rfl (by decide) rfl rfl (tw3L_1.ext (mC eu34)).out (Src.blk hB29 rfl rfl) (by rw [hTl]; omega) (fun sA cA wA AP => ⟨(mF AP.fr), by obtain ⟨g1, g2⟩ := MTab.snoc (e := ((s1, c1, ([(1, y), (0, 0)] : List Vl)), (none, 0, []))) (tw3L_1.ext (mC eu34)) h1 (OwnS.nil _ _ _) (fun k _ h => ob_none h) (fun k hk hb => by have := hTo.lt hb; rcases hk with hk | hk; have := hg1 k hk; omega; exact ob_none hk) AP; exact ⟨_, s1, c1, sA, cA, by simp, rfl, g1, fun k hk => (g2 k hk).elim .inl (fun h => .inr (h.elim (fun h => h.elim (hg1 k) (fun h => ob_none h)) (fun h => Nat.le_trans (mC eu34).size h)))⟩⟩)) (fun I67 v67 => ?_)
       refine mx_nil (fun w12 E10' H3 HS => ?_)
       have E10 := mG E10'
       have F25 := F24.new E10 (fun k h => tg3L_1 k (.inl h))
       have hz10 := E10.size
       have hI67 := (HS.1 67 _ rfl).2
       have hI66 := (HS.1 66 _ rfl).2
       have hI65 := (HS.1 65 _ rfl).2
       have hI64 := (HS.1 64 _ rfl).2
       have hX67_66 := HS.2 67 _ 66 _ rfl rfl (show (67 : Nat) ≠ 66 from by decide)
       have hX67_65 := HS.2 67 _ 65 _ rfl rfl (show (67 : Nat) ≠ 65 from by decide)
       have hX67_64 := HS.2 67 _ 64 _ rfl rfl (show (67 : Nat) ≠ 64 from by decide)
       have hX66_65 := HS.2 66 _ 65 _ rfl rfl (show (66 : Nat) ≠ 65 from by decide)
       have hX66_64 := HS.2 66 _ 64 _ rfl rfl (show (66 : Nat) ≠ 64 from by decide)
       have hX65_64 := HS.2 65 _ 64 _ rfl rfl (show (65 : Nat) ≠ 64 from by decide)
       simp only at hI67
       simp only at hI66
       simp only at hI65
       simp only at hI64
       simp only at hX67_66
       simp only at hX67_65
       simp only at hX67_64
       simp only at hX66_65
       simp only at hX66_64
       simp only at hX65_64
       have g67 := H3 67 _ rfl
       obtain ⟨T2, s1, c1, sN, cN, rfl, hT2e, hTN, hIN⟩ := g67
       have tg4 : ∀ k, mtb sN T2 k → w0.heap.size ≤ k := fun k hk => (hIN k hk).elim (tg3L_1 k) (fun h => by omega)
       have tn4_1 : ∀ k, mtb sN T2 k → k ≠ b1 := fun k hk => (hIN k hk).elim (tn3L_1_1 k) (fun h => by have := (BL3_1).lt; omega)
       have tn4_2 : ∀ k, mtb sN T2 k → k ≠ b2 := fun k hk => (hIN k hk).elim (tn3L_1_2 k) (fun h => by have := (BL3_2).lt; omega)
       have tn4_4 : ∀ k, mtb sN T2 k → k ≠ b4 := fun k hk => (hIN k hk).elim (tn3L_1_4 k) (fun h => by have := (BL3_4).lt; omega)
       have ts4_2 : ∀ k, mtb sN T2 k → ob so3_2 k → False := fun k hk h2 => (hIN k hk).elim (fun h => ts3L_1_2 k h h2) (fun h => by have := (ow3L_2).lt h2; omega)
       have g66 := H3 66 _ rfl
       have g65 := H3 65 _ rfl
       have g64 := H3 64 _ rfl
       refine lx_value (want rfl) (rn_fieldAddr fa_24_0 (A3.at 4 rfl (A1.at 4 rfl rfl))) ?_
       refine lx_set (want rfl) sz_22 rfl (t_slice rfl) rfl rfl rfl (BL3_1.fr E10 (fun h => tn3L_1_1 _ (.inl h) rfl)) (Nat.le_of_ble_eq_true rfl) ?_
       intro w13 Es7 Bs7
       have F26 := F25.set Es7 (by omega)
       have hzs7 := Es7.size
       refine lx_nil ?_
       have hTlN : T2.length = (sumI (L.take i) + j) + 1 := by rw [hT2e, List.length_append, hTl]; rfl
       have he1 := bu_at hT2e hTl
       obtain ⟨bT, oT, hsT, hcA, hcB⟩ := ((hTN.fr Es7 (fun k hk h => tn4_1 k hk h))).get he1
       subst hsT
       obtain ⟨bA, oA, hsA⟩ := own_some (((hTN.fr Es7 (fun k hk h => tn4_1 k hk h))).ownA _ _ he1) (show 0 < 2 by decide)
       subst hsA
       refine wk_mix 16 (fun kS => match kS with | 15 => .val (.agg #[.int .u8 (restV (sumI (L.take i)) (j + 1) x.length (endV (C.getD i false))).1, .int .i64 (restV (sumI (L.take i)) (j + 1) x.length (endV (C.getD i false))).2]) | _ => .none) (by kernel_rfl) (by kernel_rfl) (by intro kS G hk; (try dsimp only at hk); (split at hk) <;> first | (cases hk; done) | (injection hk with hk; subst hk; exact ⟨by intro j hkj I v w w' hR hG; first | exact hG, fun ⟨_, _, _, _, hs⟩ => by (try dsimp only at hs); split at hs <;> cases hs⟩)) (by intro kS s y G hk; (try dsimp only at hk); split at hk <;> cases hk) ?_
       simp only [List.take_succ_cons, List.take_zero, List.take_nil, List.drop_succ_cons, List.drop_zero, List.drop_nil]
       refine mx_calm rfl (want rfl) (fun u35 eu35 fu35 => rn_fieldAddr fa_24_0 (A3.at 4 rfl (A1.at 4 rfl rfl))) ?_
       refine mx_calm rfl (want rfl) (fun u36 eu36 fu36 => rn_load1Blk ag_22 rfl (Bs7.ext ((ext_drawn _).trans' eu36)) rfl) ?_
       refine mx_calm rfl (want rfl) (fun u37 eu37 fu37 => rn_fieldAddr fa_24_0 (A3.at 4 rfl (A1.at 4 rfl rfl))) ?_
       refine mx_calm rfl (want rfl) (fun u38 eu38 fu38 => rn_load1Blk ag_22 rfl (Bs7.ext ((ext_drawn _).trans' eu38)) rfl) ?_
       refine mx_calm rfl (want rfl) (fun u39 eu39 fu39 => rn_len Tryz.underlying22 rfl) ?_
       refine mx_calm (v := .int .i64 (((sumI (L.take i) + j) : Nat) : Int)) rfl (want rfl) (fun u40 eu40 fu40 => (rn_subE (n := 1) (sumI (L.take i) + j) rfl rfl (by omega))) ?_
       refine mx_calm rfl (want rfl) (fun u41 eu41 fu41 => rn_index (sumI (L.take i) + j) Tryz.underlying22 sz_65 rfl rfl rfl (by omega)) ?_
       refine mx_calm rfl (want rfl) (fun u42 eu42 fu42 => rn_fieldAddr fa_65_0 rfl) ?_
       refine mx_calm rfl (want rfl) (fun u43 eu43 fu43 => rn_load1 ag_30 rfl (show _ = some (Value.slice (some (⟨bA, oA, none⟩ : Addr)) 2 c1) from MTab.cellA ((hTN.fr Es7 (fun k hk h => tn4_1 k hk h)).ext ((ext_drawn _).trans' eu43)) he1)) ?_
       refine mx_calm rfl (want rfl) (fun u44 eu44 fu44 => mv_func (A3.at 11 rfl rfl)) ?_
       refine mx_calm rfl (want rfl) (fun u45 eu45 fu45 => mv_slice (A3.at 9 rfl rfl)) ?_
       refine mx_calm rfl (want rfl) (fun u46 eu46 fu46 => rn_len Tryz.underlying77 rfl) ?_
       refine mx_calm (v := .int .i64 ((x.length - 1 : Nat) : Int)) rfl (want rfl) (fun u47 eu47 fu47 => (rn_subN (n := 1) rfl rfl (by omega))) ?_
       refine mx_calm rfl (want rfl) (fun u48 eu48 fu48 => mv_int rfl) ?_
       refine mx_calm (v := .int .i64 ((x.length - 1 - j : Nat) : Int)) rfl (want rfl) (fun u49 eu49 fu49 => (rn_subN rfl rfl (by omega))) ?_
       refine mx_val rfl (want rfl) (fun u50 eu50 fu50 => do_call (ent_value cf_107 rfl (argsC (t_int rfl) args0)) (((build2_ct (x.length - 1 - j) T2.length (endV (C.getD i false)) b2 b1 _ _ u50 (by rw [heq]; exact (((BL3_2.fr E10 (fun h => tn3L_1_2 _ (.inl h) rfl)).ne Es7 (by omega)).ext ((ext_drawn _).trans' eu50))) (Bs7.ext ((ext_drawn _).trans' eu50))).mono (fun _ _ h => h) (fun _ _ _ h => h.trans (congrArg (fun z : Vl => Value.agg #[.int .u8 z.1, .int .i64 z.2]) (show _ = restV (sumI (L.take i)) (j + 1) x.length (endV (C.getD i false)) by rw [clo_j _ (show j < x.length by omega), hTlN, Nat.add_assoc]))))) (fun _ _ E h => ⟨E, h⟩)) ?_
       refine mx_nil (fun w14 E11' H4 HS => ?_)
       have E11 := (ext_drawn _).trans' E11'
       have F27 := F26.ext E11
       have hz11 := E11.size
       refine lx_value (want rfl) (rn_index 1 Tryz.underlying30 sz_36 rfl rfl rfl (show 1 < 2 by decide)) ?_
       have hM5 := ((hTN.fr Es7 (fun k hk h => tn4_1 k hk h)).ext E11)
       refine lx_owncell (j := 1 * 2) (want rfl) sz_36 rfl (t_agg rfl) rfl rfl rfl (hM5.ownA _ _ he1) (show 1 * 2 + 2 ≤ 2 * 2 by decide) ?_
       intro w15 E12' HO5
       have E12 : Fr (ob (some (⟨bA, oA, none⟩ : Addr))) _ _ := E12'.mono (fun i _ hi => ⟨_, _, by subst hi; rfl⟩)
       have F28 := F27.new E12 (fun k h => tg4 k (.inr ⟨_, _, he1, .inl h⟩))
       have hz12 := E12.size
       obtain ⟨tw5, ti5'⟩ := MTab.set (e' := (((some (⟨bA, oA, none⟩ : Addr)), c1, ([(1, y), (0, 0)] : List Vl).set 1 (restV (sumI (L.take i)) (j + 1) x.length (endV (C.getD i false)))), ((none : Option Addr), 0, ([] : List Rd)))) hM5 he1 (E12.mono (fun k _ h => .inl h)) (by show OwnS _ _ _ _ (List.set _ _ _).length _ ((List.set _ _ _).flatMap vlC); rw [flat_setV (show 1 < 2 by decide), List.length_set]; exact HO5) ((hM5.ownB _ _ he1).fr E12 (fun k h1 h2 => hM5.sepAB _ _ he1 k h2 h1)) (fun k h1 h2 => hM5.sepAB _ _ he1 k h1 h2) (fun k h => .inl h) (Fr.refl _ _) (by rw [flat_same he1 (by simp [SE.vs, TE.v])]; exact hM5.out.fr E12 (fun k h1 h2 => hM5.sep _ _ he1 k (.inl h2) h1))
       have ti5 : ∀ k, mtb (some (⟨bT, oT, none⟩ : Addr)) (T2.set (sumI (L.take i) + j) (((some (⟨bA, oA, none⟩ : Addr)), c1, ([(1, y), (0, 0)] : List Vl).set 1 (restV (sumI (L.take i)) (j + 1) x.length (endV (C.getD i false)))), ((none : Option Addr), 0, ([] : List Rd)))) k → (mtb (some (⟨bT, oT, none⟩ : Addr)) T2 k ∨ w15.heap.size ≤ k) := fun k hk => (ti5' k hk).elim .inl (fun h => .inl (.inr ⟨_, _, he1, h⟩))
       have tg5 : ∀ k, mtb (some (⟨bT, oT, none⟩ : Addr)) (T2.set (sumI (L.take i) + j) (((some (⟨bA, oA, none⟩ : Addr)), c1, ([(1, y), (0, 0)] : List Vl).set 1 (restV (sumI (L.take i)) (j + 1) x.length (endV (C.getD i false)))), ((none : Option Addr), 0, ([] : List Rd)))) k → w0.heap.size ≤ k := fun k hk => (ti5 k hk).elim (tg4 k) (fun h => by omega)
       have tn5_1 : ∀ k, mtb (some (⟨bT, oT, none⟩ : Addr)) (T2.set (sumI (L.take i) + j) (((some (⟨bA, oA, none⟩ : Addr)), c1, ([(1, y), (0, 0)] : List Vl).set 1 (restV (sumI (L.take i)) (j + 1) x.length (endV (C.getD i false)))), ((none : Option Addr), 0, ([] : List Rd)))) k → k ≠ b1 := fun k hk => (ti5 k hk).elim (tn4_1 k) (fun h => by have := (Bs7).lt; omega)
       have tn5_2 : ∀ k, mtb (some (⟨bT, oT, none⟩ : Addr)) (T2.set (sumI (L.take i) + j) (((some (⟨bA, oA, none⟩ : Addr)), c1, ([(1, y), (0, 0)] : List Vl).set 1 (restV (sumI (L.take i)) (j + 1) x.length (endV (C.getD i false)))), ((none : Option Addr), 0, ([] : List Rd)))) k → k ≠ b2 := fun k hk => (ti5 k hk).elim (tn4_2 k) (fun h => by have := (BL3_2).lt; omega)
       have tn5_4 : ∀ k, mtb (some (⟨bT, oT, none⟩ : Addr)) (T2.set (sumI (L.take i) + j) (((some (⟨bA, oA, none⟩ : Addr)), c1, ([(1, y), (0, 0)] : List Vl).set 1 (restV (sumI (L.take i)) (j + 1) x.length (endV (C.getD i false)))), ((none : Option Addr), 0, ([] : List Rd)))) k → k ≠ b4 := fun k hk => (ti5 k hk).elim (tn4_4 k) (fun h => by have := (BL3_4).lt; omega)
       have ts5_2 : ∀ k, mtb (some (⟨bT, oT, none⟩ : Addr)) (T2.set (sumI (L.take i) + j) (((some (⟨bA, oA, none⟩ : Addr)), c1, ([(1, y), (0, 0)] : List Vl).set 1 (restV (sumI (L.take i)) (j + 1) x.length (endV (C.getD i false)))), ((none : Option Addr), 0, ([] : List Rd)))) k → ob so3_2 k → False := fun k hk h2 => (ti5 k hk).elim (fun h => ts4_2 k h h2) (fun h => by have := (ow3L_2).lt h2; omega)
       refine lx_nil ?_
       refine wk_region ?_
       refine lx_value (want rfl) (rn_add hs3_54 rfl (by omega)) ?_
       refine lx_value (want rfl) (mv_int rfl) ?_
       refine lx_nil ?_
       exact ⟨rfl, (((((((((((((((((((((((((((((((((((((A3.up rfl _).up rfl _).up rfl _).up rfl _).up rfl _).up rfl _).up rfl _).up rfl _).up rfl _).up rfl _).up rfl _).up rfl _).up rfl _).up rfl _).up rfl _).up rfl _).none _).up rfl _).up rfl _).up rfl _).up rfl _).up rfl _).up rfl _).up rfl _).up rfl _).up rfl _).up rfl _).up rfl _).up rfl _).up rfl _).up rfl _).up rfl _).up rfl _).up rfl _).none _).up rfl _).up rfl _), Fr.between F23 F28 (by omega), _, (by omega), j + 1, so3_2, co3_2, (some (⟨bT, oT, none⟩ : Addr)), cN, (T2.set (sumI (L.take i) + j) (((some (⟨bA, oA, none⟩ : Addr)), c1, ([(1, y), (0, 0)] : List Vl).set 1 (restV (sumI (L.take i)) (j + 1) x.length (endV (C.getD i false)))), ((none : Option Addr), 0, ([] : List Rd)))), rfl, rfl, hs3_33, (by first | exact ((Bs7.ext E11).fr E12 (fun h => tn4_1 _ (.inr ⟨_, _, he1, .inl h⟩) rfl)) | (rw [List.length_set]; exact ((Bs7.ext E11).fr E12 (fun h => tn4_1 _ (.inr ⟨_, _, he1, .inl h⟩) rfl)))), ((((BL3_2.fr E10 (fun h => tn3L_1_2 _ (.inl h) rfl)).ne Es7 (by omega)).ext E11).fr E12 (fun h => tn4_2 _ (.inr ⟨_, _, he1, .inl h⟩) rfl)), ((((BL3_4.fr E10 (fun h => tn3L_1_4 _ (.inl h) rfl)).ne Es7 (by omega)).ext E11).fr E12 (fun h => tn4_4 _ (.inr ⟨_, _, he1, .inl h⟩) rfl)), ho3_2, ((((ow3L_2.fr E10 (fun k h1 h => ts3L_1_2 k (.inl h) h1)).ne Es7 (fun h => ne3L_2_1 _ h rfl)).ext E11).fr E12 (fun k h1 h => ts4_2 k (.inr ⟨_, _, he1, .inl h⟩) h1)), ge3L_2, ne3L_2_1, ne3L_2_2, ne3L_2_4, tw5, tg5, tn5_1, tn5_2, tn5_4, ts5_2, by omega, (bu_stepP hT2 hT2e hTl hy rfl)⟩
      ·
       refine lx_nil ?_
       refine wk_seq ?_
       refine wk_cond_f rfl ?_
       refine wk_exit ?_
       refine wk_region ?_
       refine lx_value (want rfl) (rn_add hs3_33 rfl (by omega)) ?_
       refine lx_value (want rfl) (mv_int rfl) ?_
       refine lx_nil ?_
       exact ⟨rfl, ((((((((((((((((((((((((((((((A1.up rfl _).up rfl _).up rfl _).up rfl _).up rfl _).up rfl _).up rfl _).up rfl _).none _).up rfl _).up rfl _).up rfl _).up rfl _).up rfl _).up rfl _).up rfl _).up rfl _).up rfl _).up rfl _).up rfl _).up rfl _).up rfl _).up rfl _).up rfl _).up rfl _).up rfl _).loop A3 rfl).up rfl _).up rfl _).up rfl _), Fr.between F4 F24 (by omega), _, (by omega), i + 1, so3_2, co3_2, st3_1, ct3_1, TT3_1, rfl, rfl, BL3_1, ho3_2, ow3L_2, ge3L_2, ne3L_2_1, tw3L_1, tg3L_1, tn3L_1_1, ts3L_1_2, by omega, (by rw [← buI_end hx hlt2]; exact hT2)⟩
    ·
     refine lx_nil ?_
     refine wk_seq ?_
     refine wk_cond_f rfl ?_
     refine wk_exit ?_
     refine wk_seq ?_
     refine wk_region ?_
     refine lx_value (want rfl) (rn_loadBlk ag_24 sz_24 (A1.at 4 rfl rfl) BL1_1 rfl rfl) ?_
     refine lx_value (want rfl) (mv_slice ho1_2) ?_
     refine lx_set (want rfl) sz_24 (A1.at 4 rfl rfl) (t_agg rfl) rfl rfl rfl BL1_1 (Nat.le_of_ble_eq_true rfl) ?_
     intro w5 Es8 Bs8
     have F29 := F7.set Es8 (by omega)
     have hzs8 := Es8.size
     refine lx_value (want rfl) (as_slice rfl) ?_
     refine lx_value (want rfl) (as_int rfl) ?_
     refine lx_nil ?_
     refine wk_ret ?_
     refine retR3 Tryz.results63 (.cell (A1.at 4 rfl rfl) (run_loadVar_blk ag_24 sz_24 Bs8 rfl rfl)) (.tmp (t_slice rfl)) (.tmp (t_int rfl)) F29 ?_
     exact outU_0 hle hAL h4L (tw1L_1.fr Es8 (fun k hk h => tn1L_1_1 k hk h)) (by rw [← buN_end hlt]; exact hT) rfl tg1L_1 (by rw [← buN_end hlt]; exact (ow1L_2.ne Es8 (fun h => ne1L_2_1 _ h rfl))) ge1L_2 (by rw [← buN_end hlt])

end Go.Proofs.YtnhgfmbmfjmonaaGreatDoor

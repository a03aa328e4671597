/- What functions compute: pbelow. -/
import Derived.Test.YtnhgfmbmfjmonaaGreatDoorMoreFacts
import Derived.Test.YtnhgfmbmfjmonaaGreatDoorMorePre
import Derived.Test.YtnhgfmbmfjmonaaGreatDoorMoreWalk2
set_option maxRecDepth 100000
set_option linter.unusedVariables false
set_option linter.unusedSimpArgs false
namespace Go.Proofs.YtnhgfmbmfjmonaaGreatDoor
open Go Go.RowKit Go.Mix Go.Eng
set_option maxHeartbeats 4000000 in
set_option maxRecDepth 100000 in
theorem pbelow_ct (Z : Nat → Prop) (b : Nat) (A B : List (List Vl)) (sva : Option Addr) (nva cva : Nat) (sA : Option Addr) (cA : Nat) (svb : Option Addr) (nvb cvb : Nat) (sB : Option Addr) (cB : Nat) (G : Nat → Prop) (f : Nat) (L : List (Nat × Nat)) (l k : List Vl) (s : Option Addr) (c : Nat) (s2 : Option Addr) (c2 : Nat) (hGZ : ∀ k, G k → ¬ Z k) (hA : ∀ x ∈ A, x.length ≤ 1048576 ∧ ∀ v ∈ x, isVal v A.length = true) (hB : ∀ x ∈ B, ∀ v ∈ x, isVal v B.length = true) (hAl : A.length ≤ 1048576) (hnd : (L.map (·.1)).Nodup) (hlt0 : ∀ p ∈ L, p.1 < A.length) (hfu : A.length ≤ f + L.length) (hlv : ∀ v ∈ l, isVal v A.length = true) (hkv : ∀ v ∈ k, isVal v B.length = true) (hll : l.length ≤ 1048576) (hrec : ∀ dq, f = dq + 1 → BelP Tryz.prog 100 b [.slice sva nva cva, .slice sA A.length cA, .slice svb nvb cvb, .slice sB B.length cB] A B sA sB G dq) (w0 : World) (hGl : ∀ k, G k → k < w0.heap.size) (hM : PO Z w0 b [.slice sva nva cva, .slice sA A.length cA, .slice svb nvb cvb, .slice sB B.length cB] L) (hl : VlS G w0 s l) (hk : VlS G w0 s2 k) (hVA : VvS G w0 sA A) (hVB : VvS G w0 sB B) :
  CT Tryz.prog 100 [.pointer (some ⟨b, 0, none⟩), .slice s l.length c, .slice s2 k.length c2] w0 Z (fun v w => OutB Z w0.heap.size b [.slice sva nva cva, .slice sA A.length cA, .slice svb nvb cvb, .slice sB B.length cB] A B f L l k w v) := by
 have hZt1 : ∀ k, zz zn Z k → Z k := fun k h => h
 have hZb := hM.in
 have hlb := hM.lt hZb
 have hin : allIn A := fun i => cells_refs hA i
 have F0 := Fr.refl Z w0
 have zt1 : ∀ k, zz zn Z k → Z k ∨ w0.heap.size ≤ k := fun k h => .inl (hZt1 k h)
 refine ct_body Tryz.func100 rfl Tryz.ntmps100 (Nat.le_of_ble_eq_true rfl) ?_
 refine wk_seq ?_
 refine wk_region ?_
 refine lx_value (want rfl) (as_bool rfl) ?_
 refine lx_nil ?_
 refine wk_seq ?_
 refine wk_seq ?_
 refine wk_region ?_
 refine lx_value (want rfl) (mv_slice rfl) ?_
 refine lx_value (want rfl) (rn_len Tryz.underlying30 rfl) ?_
 refine lx_value (want rfl) (mv_slice rfl) ?_
 refine lx_value (want rfl) (rn_len Tryz.underlying30 rfl) ?_
 refine lx_value (want rfl) (rn_neq rfl rfl) ?_
 refine lx_dec (fun hle => ?_) (fun hle => ?_)
 ·
  refine lx_nil ?_
  refine wk_cond_t rfl ?_
  refine wk_seq ?_
  refine wk_region ?_
  refine lx_value (want rfl) (as_bool rfl) ?_
  refine lx_nil ?_
  refine wk_ret ?_
  refine retR1 Tryz.results100 (.tmp (t_bool rfl)) F0 ?_
  exact outB_no hM zt1 (belowF_ne (by omega))
 ·
  have hle : l.length = k.length := by omega
  refine lx_nil ?_
  refine wk_cond_f rfl ?_
  refine wk_skip ?_
  refine wk_seq ?_
  refine wk_seq ?_
  refine wk_region ?_
  refine lx_value (want rfl) (mv_slice rfl) ?_
  refine lx_value (want rfl) (rn_len Tryz.underlying30 rfl) ?_
  refine lx_value (want rfl) (mv_int rfl) ?_
  refine lx_nil ?_
  refine wk_block ?_
  refine wk_loopA [6, 7, 8, 9, 10, 11, 12, 13, 21, 22, 23, 24, 25, 26, 27, 28, 29, 30, 31, 32, 33, 34, 35, 36, 37, 38, 39, 40, 41, 42, 43, 44, 45, 46, 47, 48, 49, 50, 51, 52, 53, 54, 55, 56, 57, 58, 59, 60, 61, 62, 63, 64, 65, 66, 67, 68, 69, 70, 71, 72, 73, 74, 75, 76, 77, 78, 79, 80, 81, 82, 83, 84, 85, 86, 87, 88, 89, 90, 91, 92, 93, 94, 95, 96, 97, 98, 99, 100, 101, 102, 103, 104, 105, 106, 107, 108, 109, 110, 111, 112, 113, 114, 115, 116, 117, 118, 119, 120, 121, 122, 123, 124, 125, 126, 127] (fun j => Z j ∨ w0.heap.size ≤ j) (fun nM ρ w => ∃ (i : Nat) (Lq : List (Nat × Nat)) (TT1_1 : Nat → Prop), nM = l.length - i ∧ ρ 21 = .int .i64 i ∧ PO TT1_1 w b [.slice sva nva cva, .slice sA A.length cA, .slice svb nvb cvb, .slice sB B.length cB] Lq ∧ (∀ k, zz zn TT1_1 k → Z k ∨ w0.heap.size ≤ k) ∧ (i ≤ l.length) ∧ (dfs A B f Lq (l.drop i) (k.drop i) = dfs A B f L l k) ∧ ((Lq.map (·.1)).Nodup) ∧ (∀ p ∈ Lq, p.1 < A.length) ∧ (A.length ≤ f + Lq.length)) _ ⟨0, L, Z, rfl, rfl, hM, zt1, Nat.zero_le _, rfl, hnd, hlt0, hfu⟩ ?_
  rintro n1 ρ1 w1 A1 EL1 ⟨i, Lq, TT1_1, rfl, hs1_21, tw1L_1, tg1L_1, hi, hq, hndq, hltq, hfuq⟩
  have F1 := F0.wide EL1
  have hzL1 := EL1.size
  refine wk_seq ?_
  refine wk_region ?_
  refine lx_value (want rfl) (rn_lss hs1_21 (A1.at 20 rfl rfl)) ?_
  refine lx_dec (fun hlt => ?_) (fun hlt => ?_)
  ·
   obtain ⟨vq, hv⟩ := getx hlt
   obtain ⟨wq, hw⟩ : ∃ y, k[i]? = some y := getx (by omega)
   obtain ⟨bv, ov, rfl, hGv, hcv⟩ := hl i vq hv
   obtain ⟨bw, ow, rfl, hGw, hcw⟩ := hk i wq hw
   have hVv := hlv vq (List.mem_of_getElem? hv)
   have hVw := hkv wq (List.mem_of_getElem? hw)
   refine lx_nil ?_
   refine wk_seq ?_
   refine wk_cond_t rfl ?_
   refine wk_skip ?_
   refine wk_seq ?_
   refine wk_block ?_
   refine wk_seq ?_
   refine wk_region ?_
   refine lx_value (want rfl) (mv_int hs1_21) ?_
   refine lx_value (want rfl) (rn_index _ Tryz.underlying30 sz_36 (A1.at 19 rfl rfl) hs1_21 rfl (by omega)) ?_
   refine lx_value (want rfl) (rn_load2 ag_36 sz_36 rfl (F1.cell (hGZ _ hGv) (hcv 0 _ rfl)) (F1.cell (hGZ _ hGv) (hcv 1 _ rfl))) ?_
   refine lx_new (want rfl) (rn_alloc ze_36) ?_
   intro b1 w2 hb1 Eb1 B1 hlb1
   have F2 := F1.ext Eb1
   have hzb1 := Eb1.size
   have nb1 : ∀ k, zz zn TT1_1 k → k ≠ b1 := fun k hk => by have := (tw1L_1).lt hk; omega
   refine lx_value (want rfl) (as_int rfl) ?_
   refine lx_set (want rfl) sz_36 rfl (t_agg rfl) rfl rfl rfl B1 (Nat.le_of_ble_eq_true rfl) ?_
   intro w3 Es1 Bs1
   have F3 := F2.set Es1 (by omega)
   have hzs1 := Es1.size
   refine lx_nil ?_
   refine wk_seq ?_
   refine wk_region ?_
   refine lx_value (want rfl) (mv_slice (A1.at 2 rfl rfl)) ?_
   refine lx_value (want rfl) (mv_int rfl) ?_
   refine lx_value (want rfl) (rn_index _ Tryz.underlying30 sz_36 rfl rfl rfl (by omega)) ?_
   refine lx_value (want rfl) (rn_load2 ag_36 sz_36 rfl (F3.cell (hGZ _ hGw) (hcw 0 _ rfl)) (F3.cell (hGZ _ hGw) (hcw 1 _ rfl))) ?_
   refine lx_new (want rfl) (rn_alloc ze_36) ?_
   intro b2 w4 hb2 Eb2 B2 hlb2
   have F4 := F3.ext Eb2
   have hzb2 := Eb2.size
   have nb2 : ∀ k, zz zn TT1_1 k → k ≠ b2 := fun k hk => by have := (tw1L_1).lt hk; omega
   refine lx_set (want rfl) sz_36 rfl (t_agg rfl) rfl rfl rfl B2 (Nat.le_of_ble_eq_true rfl) ?_
   intro w5 Es2 Bs2
   have F5 := F4.set Es2 (by omega)
   have hzs2 := Es2.size
   refine lx_nil ?_
   refine wk_seq ?_
   refine wk_block ?_
   refine wk_seq ?_
   refine wk_region ?_
   refine lx_value (want rfl) (rn_loadBlk ag_36 sz_36 rfl ((Bs1.ext Eb2).ne Es2 (by omega)) rfl rfl) ?_
   refine lx_call (want rfl) (ent_func cf_99 (argsC (t_agg rfl) args0)) (ishole_ct vq.1 vq.2 w5) ?_
   rintro _ w6 E1 rfl
   have F6 := F5.ext E1
   have hz1 := E1.size
   refine lx_split (fun h0 => ?_) (fun h0 => ?_)
   ·
    have hon := dfs_hole (A := A) (B := B) (f := f) (L := Lq) hv hw (of_decide_eq_true h0)
    refine lx_value (want rfl) (as_bool rfl) ?_
    refine lx_nil ?_
    refine wk_cond_t rfl ?_
    refine wk_exit ?_
    refine wk_region ?_
    refine lx_value (want rfl) (rn_add hs1_21 rfl (by omega)) ?_
    refine lx_value (want rfl) (mv_int rfl) ?_
    refine lx_nil ?_
    exact ⟨rfl, ((((((((((((((((((A1.up rfl _).up rfl _).up rfl _).up rfl _).up rfl _).up rfl _).none _).up rfl _).up rfl _).up rfl _).up rfl _).up rfl _).none _).up rfl _).up rfl _).up rfl _).up rfl _).up rfl _), Fr.between F0 F6 (by omega), _, (by omega), i + 1, Lq, TT1_1, rfl, rfl, (((((tw1L_1.ext Eb1).fr Es1 (fun k hk h => nb1 k hk h)).ext Eb2).fr Es2 (fun k hk h => nb2 k hk h)).ext E1), tg1L_1, by have := (List.getElem?_eq_some_iff.1 hv).1; omega, (hon.symm.trans hq), hndq, hltq, hfuq⟩
   ·
    replace h0 := of_decide_eq_false h0
    refine lx_value (want rfl) (as_bool rfl) ?_
    refine lx_nil ?_
    refine wk_cond_f rfl ?_
    refine wk_seq ?_
    refine wk_region ?_
    refine lx_value (want rfl) (rn_fieldAddr fa_36_0 rfl) ?_
    refine lx_value (want rfl) (rn_load1Blk ag_5 rfl (((Bs1.ext Eb2).ne Es2 (by omega)).ext E1) rfl) ?_
    refine lx_value (want rfl) (rn_neq rfl rfl) ?_
    refine lx_dec (fun h4 => ?_) (fun h4 => ?_)
    ·
     refine lx_value (want rfl) (mv_bool rfl) ?_
     refine lx_skip (want_if (j := 3) (d := 37) (x := false) (y := true) rfl rfl (by decide) rfl) ?_
     refine lx_skip (want_if (j := 3) (d := 37) (x := false) (y := true) rfl rfl (by decide) rfl) ?_
     refine lx_skip (want_if (j := 3) (d := 37) (x := false) (y := true) rfl rfl (by decide) rfl) ?_
     refine lx_value (want rfl) (pick_t rfl rfl) ?_
     refine lx_value (want rfl) (as_bool rfl) ?_
     refine lx_nil ?_
     refine wk_cond_t rfl ?_
     refine wk_seq ?_
     refine wk_seq ?_
     refine wk_region ?_
     refine lx_value (want rfl) (rn_loadBlk ag_36 sz_36 rfl (((Bs1.ext Eb2).ne Es2 (by omega)).ext E1) rfl rfl) ?_
     refine lx_value (want rfl) (rn_loadBlk ag_36 sz_36 rfl (Bs2.ext E1) rfl rfl) ?_
     refine lx_value (want rfl) (rn_cmpS (t_agg rfl) (t_agg rfl) (gneq_36 _ _ _ _) (neq_36 _ _ _ _)) ?_
     refine lx_dec (fun hne => ?_) (fun hne => ?_)
     ·
      refine lx_nil ?_
      refine wk_cond_t rfl ?_
      refine wk_seq ?_
      refine wk_region ?_
      refine lx_value (want rfl) (as_bool rfl) ?_
      refine lx_nil ?_
      refine wk_ret ?_
      refine retR1 Tryz.results100 (.tmp (t_bool rfl)) F6 ?_
      exact outB_no (((((tw1L_1.ext Eb1).fr Es1 (fun k hk h => nb1 k hk h)).ext Eb2).fr Es2 (fun k hk h => nb2 k hk h)).ext E1) tg1L_1 ((belowF_eq hle).trans (hq.symm.trans (dfs_ne hv hw h0 (.inl h4) (vl_ne hne))))
     ·
      have hon := dfs_same (A := A) (B := B) (f := f) (L := Lq) hv hw h0 (by first | exact .inl h4 | exact .inr h5) (vl_eq hne)
      refine lx_nil ?_
      refine wk_cond_f rfl ?_
      refine wk_skip ?_
      refine wk_exit ?_
      refine wk_region ?_
      refine lx_value (want rfl) (rn_add hs1_21 rfl (by omega)) ?_
      refine lx_value (want rfl) (mv_int rfl) ?_
      refine lx_nil ?_
      exact ⟨rfl, ((((((((((((((((((((((((((((((A1.up rfl _).up rfl _).up rfl _).up rfl _).up rfl _).up rfl _).none _).up rfl _).up rfl _).up rfl _).up rfl _).up rfl _).none _).up rfl _).up rfl _).up rfl _).up rfl _).up rfl _).up rfl _).up rfl _).up rfl _).up rfl _).up rfl _).up rfl _).up rfl _).up rfl _).up rfl _).up rfl _).up rfl _).up rfl _), Fr.between F0 F6 (by omega), _, (by omega), i + 1, Lq, TT1_1, rfl, rfl, (((((tw1L_1.ext Eb1).fr Es1 (fun k hk h => nb1 k hk h)).ext Eb2).fr Es2 (fun k hk h => nb2 k hk h)).ext E1), tg1L_1, by have := (List.getElem?_eq_some_iff.1 hv).1; omega, (hon.symm.trans hq), hndq, hltq, hfuq⟩
    ·
     replace h4 : vq.1 = 4 := Decidable.not_not.1 h4
     refine lx_value (want rfl) (mv_bool rfl) ?_
     refine lx_value (want_if (j := 3) (d := 37) (x := false) (y := false) rfl rfl (by decide) rfl) (rn_fieldAddr fa_36_0 rfl) ?_
     refine lx_value (want_if (j := 3) (d := 37) (x := false) (y := false) rfl rfl (by decide) rfl) (rn_load1Blk ag_5 rfl (Bs2.ext E1) rfl) ?_
     refine lx_value (want_if (j := 3) (d := 37) (x := false) (y := false) rfl rfl (by decide) rfl) (rn_neq rfl rfl) ?_
     refine lx_dec (fun h5 => ?_) (fun h5 => ?_)
     ·
      refine lx_value (want rfl) (pick_f rfl rfl) ?_
      refine lx_value (want rfl) (as_bool rfl) ?_
      refine lx_nil ?_
      refine wk_cond_t rfl ?_
      refine wk_seq ?_
      refine wk_seq ?_
      refine wk_region ?_
      refine lx_value (want rfl) (rn_loadBlk ag_36 sz_36 rfl (((Bs1.ext Eb2).ne Es2 (by omega)).ext E1) rfl rfl) ?_
      refine lx_value (want rfl) (rn_loadBlk ag_36 sz_36 rfl (Bs2.ext E1) rfl rfl) ?_
      refine lx_value (want rfl) (rn_cmpS (t_agg rfl) (t_agg rfl) (gneq_36 _ _ _ _) (neq_36 _ _ _ _)) ?_
      refine lx_dec (fun hne => ?_) (fun hne => ?_)
      ·
       refine lx_nil ?_
       refine wk_cond_t rfl ?_
       refine wk_seq ?_
       refine wk_region ?_
       refine lx_value (want rfl) (as_bool rfl) ?_
       refine lx_nil ?_
       refine wk_ret ?_
       refine retR1 Tryz.results100 (.tmp (t_bool rfl)) F6 ?_
       exact outB_no (((((tw1L_1.ext Eb1).fr Es1 (fun k hk h => nb1 k hk h)).ext Eb2).fr Es2 (fun k hk h => nb2 k hk h)).ext E1) tg1L_1 ((belowF_eq hle).trans (hq.symm.trans (dfs_ne hv hw h0 (.inr h5) (vl_ne hne))))
      ·
       have hon := dfs_same (A := A) (B := B) (f := f) (L := Lq) hv hw h0 (by first | exact .inl h4 | exact .inr h5) (vl_eq hne)
       refine lx_nil ?_
       refine wk_cond_f rfl ?_
       refine wk_skip ?_
       refine wk_exit ?_
       refine wk_region ?_
       refine lx_value (want rfl) (rn_add hs1_21 rfl (by omega)) ?_
       refine lx_value (want rfl) (mv_int rfl) ?_
       refine lx_nil ?_
       exact ⟨rfl, ((((((((((((((((((((((((((((((A1.up rfl _).up rfl _).up rfl _).up rfl _).up rfl _).up rfl _).none _).up rfl _).up rfl _).up rfl _).up rfl _).up rfl _).none _).up rfl _).up rfl _).up rfl _).up rfl _).up rfl _).up rfl _).up rfl _).up rfl _).up rfl _).up rfl _).up rfl _).up rfl _).up rfl _).up rfl _).up rfl _).up rfl _).up rfl _), Fr.between F0 F6 (by omega), _, (by omega), i + 1, Lq, TT1_1, rfl, rfl, (((((tw1L_1.ext Eb1).fr Es1 (fun k hk h => nb1 k hk h)).ext Eb2).fr Es2 (fun k hk h => nb2 k hk h)).ext E1), tg1L_1, by have := (List.getElem?_eq_some_iff.1 hv).1; omega, (hon.symm.trans hq), hndq, hltq, hfuq⟩
     ·
      replace h5 : wq.1 = 4 := Decidable.not_not.1 h5
      have h0v := (isVal_ref hVv h4).1
      have h0w := (isVal_ref hVw h5).1
      have hvl := (isVal_ref hVv h4).2
      have hwl := (isVal_ref hVw h5).2
      refine lx_value (want rfl) (pick_f rfl rfl) ?_
      refine lx_value (want rfl) (as_bool rfl) ?_
      refine lx_nil ?_
      refine wk_cond_f rfl ?_
      refine wk_skip ?_
      refine wk_seq ?_
      obtain ⟨tq, fq, x1, x2, e1, e2, hcl, hcl2, hth, hnw⟩ := look_pair (L := Lq) h0v h0w
      obtain ⟨bt, bf, hBR, hTR, hFR⟩ := PO.parts (((((tw1L_1.ext Eb1).fr Es1 (fun k hk h => nb1 k hk h)).ext Eb2).fr Es2 (fun k hk h => nb2 k hk h)).ext E1)
      refine wk_mix 11 (fun _ => .none) (by kernel_rfl) (by kernel_rfl) (fun kS G hk => by cases hk) (fun kS s y G hk => by cases hk) ?_
      simp only [List.take_succ_cons, List.take_zero, List.take_nil, List.drop_succ_cons, List.drop_zero, List.drop_nil]
      refine mx_calm rfl (want rfl) (fun u1 eu1 fu1 => mv_pointer (A1.at 0 rfl rfl)) ?_
      refine mx_calm rfl (want rfl) (fun u2 eu2 fu2 => rn_nilCheck rfl) ?_
      refine mx_calm rfl (want rfl) (fun u3 eu3 fu3 => rn_fieldAddr fa_156_2 rfl) ?_
      refine mx_calm rfl (want rfl) (fun u4 eu4 fu4 => rn_load1 ag_154 rfl (((ext_drawn _).trans' eu4).cell (fun h => h) (hBR.cell 4 rfl))) ?_
      refine mx_calm rfl (want rfl) (fun u5 eu5 fu5 => rn_fieldAddr fa_36_1 rfl) ?_
      refine mx_calm rfl (want rfl) (fun u6 eu6 fu6 => rn_load1Blk ag_3 rfl ((((Bs1.ext Eb2).ne Es2 (by omega)).ext E1).ext ((ext_drawn _).trans' eu6)) rfl) ?_
      refine mx_calm (v := .tuple #[.int .i64 tq, .bool x1]) rfl (want rfl) (fun u7 eu7 fu7 => (by rw [← e1]; exact rn_lookOk mv_154 rfl rfl (MapB.v (hTR.ext ((ext_drawn _).trans' eu7))))) ?_
      refine mx_calm rfl (want rfl) (fun u8 eu8 fu8 => mv_tuple rfl) ?_
      refine mx_calm rfl (want rfl) (fun u9 eu9 fu9 => rn_extract rfl rfl) ?_
      refine mx_calm rfl (want rfl) (fun u10 eu10 fu10 => rn_extract rfl rfl) ?_
      refine mx_split (fun hx1 => ?_) (fun hx1 => ?_)
      ·
       refine mx_calm rfl (want rfl) (fun u11 eu11 fu11 => as_int rfl) ?_
       refine mx_nil (fun w7 E2' H1 HS => ?_)
       have E2 := (ext_drawn _).trans' E2'
       have F7 := F6.ext E2
       have hz2 := E2.size
       refine lx_value (want rfl) (as_bool rfl) ?_
       refine lx_nil ?_
       refine wk_seq ?_
       obtain ⟨bt2, bf2, hBR2, hTR2, hFR2⟩ := PO.parts ((((((tw1L_1.ext Eb1).fr Es1 (fun k hk h => nb1 k hk h)).ext Eb2).fr Es2 (fun k hk h => nb2 k hk h)).ext E1).ext E2)
       refine wk_mix 11 (fun _ => .none) (by kernel_rfl) (by kernel_rfl) (fun kS G hk => by cases hk) (fun kS s y G hk => by cases hk) ?_
       simp only [List.take_succ_cons, List.take_zero, List.take_nil, List.drop_succ_cons, List.drop_zero, List.drop_nil]
       refine mx_calm rfl (want rfl) (fun u12 eu12 fu12 => mv_pointer (A1.at 0 rfl rfl)) ?_
       refine mx_calm rfl (want rfl) (fun u13 eu13 fu13 => rn_nilCheck rfl) ?_
       refine mx_calm rfl (want rfl) (fun u14 eu14 fu14 => rn_fieldAddr fa_156_3 rfl) ?_
       refine mx_calm rfl (want rfl) (fun u15 eu15 fu15 => rn_load1 ag_154 rfl (((ext_drawn _).trans' eu15).cell (fun h => h) (hBR2.cell 5 rfl))) ?_
       refine mx_calm rfl (want rfl) (fun u16 eu16 fu16 => rn_fieldAddr fa_36_1 rfl) ?_
       refine mx_calm rfl (want rfl) (fun u17 eu17 fu17 => rn_load1Blk ag_3 rfl (((Bs2.ext E1).ext E2).ext ((ext_drawn _).trans' eu17)) rfl) ?_
       refine mx_calm (v := .tuple #[.int .i64 fq, .bool x2]) rfl (want rfl) (fun u18 eu18 fu18 => (by rw [← e2]; exact rn_lookOk mv_154 rfl rfl (MapB.v (hFR2.ext ((ext_drawn _).trans' eu18))))) ?_
       refine mx_calm rfl (want rfl) (fun u19 eu19 fu19 => mv_tuple rfl) ?_
       refine mx_calm rfl (want rfl) (fun u20 eu20 fu20 => rn_extract rfl rfl) ?_
       refine mx_calm rfl (want rfl) (fun u21 eu21 fu21 => rn_extract rfl rfl) ?_
       refine mx_split (fun hx2 => ?_) (fun hx2 => ?_)
       ·
        refine mx_calm rfl (want rfl) (fun u22 eu22 fu22 => as_int rfl) ?_
        refine mx_nil (fun w8 E3' H2 HS => ?_)
        have E3 := (ext_drawn _).trans' E3'
        have F8 := F7.ext E3
        have hz3 := E3.size
        refine lx_value (want rfl) (as_bool rfl) ?_
        refine lx_nil ?_
        refine wk_seq ?_
        refine wk_block ?_
        refine wk_seq ?_
        refine wk_region ?_
        refine lx_value (want rfl) (mv_bool rfl) ?_
        refine lx_value (want rfl) (mv_bool rfl) ?_
        refine lx_value (want rfl) (rn_neqB Tryz.underlying4 rfl rfl) ?_
        refine lx_dec_f (by decide) ?_
        refine lx_value (want rfl) (mv_bool rfl) ?_
        refine lx_value (want_if (j := 3) (d := 69) (x := false) (y := false) rfl rfl (by decide) rfl) (mv_bool rfl) ?_
        refine lx_value (want_if (j := 3) (d := 69) (x := false) (y := false) rfl rfl (by decide) rfl) (mv_bool rfl) ?_
        refine lx_value (want_if (j := 5) (d := 71) (x := true) (y := true) rfl rfl (by decide) rfl) (mv_int rfl) ?_
        refine lx_value (want_if (j := 5) (d := 71) (x := true) (y := true) rfl rfl (by decide) rfl) (rn_fieldAddr fa_36_1 rfl) ?_
        refine lx_value (want_if (j := 5) (d := 71) (x := true) (y := true) rfl rfl (by decide) rfl) (rn_load1Blk ag_3 rfl (((Bs2.ext E1).ext E2).ext E3) rfl) ?_
        refine lx_value (want_if (j := 5) (d := 71) (x := true) (y := true) rfl rfl (by decide) rfl) (rn_neq rfl rfl) ?_
        refine lx_dec (fun hc1 => ?_) (fun hc1 => ?_)
        ·
         refine lx_value (want_if (j := 5) (d := 71) (x := true) (y := true) rfl rfl (by decide) rfl) (mv_bool rfl) ?_
         refine lx_skip (want_if (j := 10) (d := 76) (x := false) (y := true) rfl rfl (by decide) rfl) ?_
         refine lx_skip (want_if (j := 10) (d := 76) (x := false) (y := true) rfl rfl (by decide) rfl) ?_
         refine lx_skip (want_if (j := 10) (d := 76) (x := false) (y := true) rfl rfl (by decide) rfl) ?_
         refine lx_skip (want_if (j := 10) (d := 76) (x := false) (y := true) rfl rfl (by decide) rfl) ?_
         refine lx_value (want_if (j := 5) (d := 71) (x := true) (y := true) rfl rfl (by decide) rfl) (pick_t rfl rfl) ?_
         refine lx_value (want_if (j := 3) (d := 69) (x := false) (y := false) rfl rfl (by decide) rfl) (pick_t rfl rfl) ?_
         refine lx_value (want rfl) (pick_f rfl rfl) ?_
         refine lx_value (want rfl) (as_bool rfl) ?_
         refine lx_nil ?_
         refine wk_cond_t rfl ?_
         refine wk_seq ?_
         refine wk_region ?_
         refine lx_value (want rfl) (as_bool rfl) ?_
         refine lx_nil ?_
         refine wk_ret ?_
         refine retR1 Tryz.results100 (.tmp (t_bool rfl)) F8 ?_
         exact outB_no (((((((tw1L_1.ext Eb1).fr Es1 (fun k hk h => nb1 k hk h)).ext Eb2).fr Es2 (fun k hk h => nb2 k hk h)).ext E1).ext E2).ext E3) tg1L_1 ((belowF_eq hle).trans (hq.symm.trans (dfs_clash hv hw h4 h5 (hcl2 hx1 hx2 (fun g => hc1 g.1)))))
        ·
         refine lx_value (want_if (j := 5) (d := 71) (x := true) (y := true) rfl rfl (by decide) rfl) (mv_bool rfl) ?_
         refine lx_value (want_if (j := 10) (d := 76) (x := false) (y := false) rfl rfl (by decide) rfl) (mv_int rfl) ?_
         refine lx_value (want_if (j := 10) (d := 76) (x := false) (y := false) rfl rfl (by decide) rfl) (rn_fieldAddr fa_36_1 rfl) ?_
         refine lx_value (want_if (j := 10) (d := 76) (x := false) (y := false) rfl rfl (by decide) rfl) (rn_load1Blk ag_3 rfl (((((Bs1.ext Eb2).ne Es2 (by omega)).ext E1).ext E2).ext E3) rfl) ?_
         refine lx_value (want_if (j := 10) (d := 76) (x := false) (y := false) rfl rfl (by decide) rfl) (rn_neq rfl rfl) ?_
         refine lx_dec (fun hc2 => ?_) (fun hc2 => ?_)
         ·
          refine lx_value (want_if (j := 5) (d := 71) (x := true) (y := true) rfl rfl (by decide) rfl) (pick_f rfl rfl) ?_
          refine lx_value (want_if (j := 3) (d := 69) (x := false) (y := false) rfl rfl (by decide) rfl) (pick_t rfl rfl) ?_
          refine lx_value (want rfl) (pick_f rfl rfl) ?_
          refine lx_value (want rfl) (as_bool rfl) ?_
          refine lx_nil ?_
          refine wk_cond_t rfl ?_
          refine wk_seq ?_
          refine wk_region ?_
          refine lx_value (want rfl) (as_bool rfl) ?_
          refine lx_nil ?_
          refine wk_ret ?_
          refine retR1 Tryz.results100 (.tmp (t_bool rfl)) F8 ?_
          exact outB_no (((((((tw1L_1.ext Eb1).fr Es1 (fun k hk h => nb1 k hk h)).ext Eb2).fr Es2 (fun k hk h => nb2 k hk h)).ext E1).ext E2).ext E3) tg1L_1 ((belowF_eq hle).trans (hq.symm.trans (dfs_clash hv hw h4 h5 (hcl2 hx1 hx2 (fun g => hc2 g.2)))))
         ·
          have hon := dfs_there (A := A) (B := B) (f := f) hv hw h4 h5 (hth hx1 hx2 (Decidable.not_not.1 hc1) (Decidable.not_not.1 hc2))
          refine lx_value (want_if (j := 5) (d := 71) (x := true) (y := true) rfl rfl (by decide) rfl) (pick_f rfl rfl) ?_
          refine lx_value (want_if (j := 3) (d := 69) (x := false) (y := false) rfl rfl (by decide) rfl) (pick_t rfl rfl) ?_
          refine lx_value (want rfl) (pick_f rfl rfl) ?_
          refine lx_value (want rfl) (as_bool rfl) ?_
          refine lx_nil ?_
          refine wk_cond_f rfl ?_
          refine wk_seq ?_
          refine wk_region ?_
          refine lx_value (want rfl) (mv_bool rfl) ?_
          refine lx_value (want rfl) (as_bool rfl) ?_
          refine lx_nil ?_
          refine wk_cond_t rfl ?_
          refine wk_exit ?_
          refine wk_region ?_
          refine lx_value (want rfl) (rn_add hs1_21 rfl (by omega)) ?_
          refine lx_value (want rfl) (mv_int rfl) ?_
          refine lx_nil ?_
          exact ⟨rfl, ((((((((((((((((((((((((((((((((((((((((((((((((((((((((((((((((((((((((A1.up rfl _).up rfl _).up rfl _).up rfl _).up rfl _).up rfl _).none _).up rfl _).up rfl _).up rfl _).up rfl _).up rfl _).none _).up rfl _).up rfl _).up rfl _).up rfl _).up rfl _).up rfl _).up rfl _).up rfl _).up rfl _).up rfl _).up rfl _).up rfl _).up rfl _).up rfl _).up rfl _).up rfl _).up rfl _).up rfl _).up rfl _).up rfl _).up rfl _).up rfl _).up rfl _).up rfl _).up rfl _).up rfl _).up rfl _).up rfl _).up rfl _).up rfl _).up rfl _).up rfl _).up rfl _).up rfl _).up rfl _).up rfl _).up rfl _).up rfl _).up rfl _).up rfl _).up rfl _).up rfl _).up rfl _).up rfl _).up rfl _).up rfl _).up rfl _).up rfl _).up rfl _).up rfl _).up rfl _).up rfl _).up rfl _).up rfl _).up rfl _).up rfl _).up rfl _).up rfl _).up rfl _), Fr.between F0 F8 (by omega), _, (by omega), i + 1, Lq, TT1_1, rfl, rfl, (((((((tw1L_1.ext Eb1).fr Es1 (fun k hk h => nb1 k hk h)).ext Eb2).fr Es2 (fun k hk h => nb2 k hk h)).ext E1).ext E2).ext E3), tg1L_1, by have := (List.getElem?_eq_some_iff.1 hv).1; omega, (hon.symm.trans hq), hndq, hltq, hfuq⟩
       ·
        refine mx_calm rfl (want rfl) (fun u23 eu23 fu23 => as_int rfl) ?_
        refine mx_nil (fun w8 E4' H3 HS => ?_)
        have E4 := (ext_drawn _).trans' E4'
        have F9 := F7.ext E4
        have hz4 := E4.size
        refine lx_value (want rfl) (as_bool rfl) ?_
        refine lx_nil ?_
        refine wk_seq ?_
        refine wk_block ?_
        refine wk_seq ?_
        refine wk_region ?_
        refine lx_value (want rfl) (mv_bool rfl) ?_
        refine lx_value (want rfl) (mv_bool rfl) ?_
        refine lx_value (want rfl) (rn_neqB Tryz.underlying4 rfl rfl) ?_
        refine lx_dec_t (by decide) ?_
        refine lx_value (want rfl) (mv_bool rfl) ?_
        refine lx_skip (want_if (j := 3) (d := 69) (x := false) (y := true) rfl rfl (by decide) rfl) ?_
        refine lx_skip (want_if (j := 3) (d := 69) (x := false) (y := true) rfl rfl (by decide) rfl) ?_
        refine lx_skip (want_un (j := 5) (d := 71) (x := true) rfl rfl (by decide) rfl) ?_
        refine lx_skip (want_un (j := 5) (d := 71) (x := true) rfl rfl (by decide) rfl) ?_
        refine lx_skip (want_un (j := 5) (d := 71) (x := true) rfl rfl (by decide) rfl) ?_
        refine lx_skip (want_un (j := 5) (d := 71) (x := true) rfl rfl (by decide) rfl) ?_
        refine lx_skip (want_un (j := 5) (d := 71) (x := true) rfl rfl (by decide) rfl) ?_
        refine lx_skip (want_un (j := 10) (d := 76) (x := false) rfl rfl (by decide) rfl) ?_
        refine lx_skip (want_un (j := 10) (d := 76) (x := false) rfl rfl (by decide) rfl) ?_
        refine lx_skip (want_un (j := 10) (d := 76) (x := false) rfl rfl (by decide) rfl) ?_
        refine lx_skip (want_un (j := 10) (d := 76) (x := false) rfl rfl (by decide) rfl) ?_
        refine lx_skip (want_un (j := 5) (d := 71) (x := true) rfl rfl (by decide) rfl) ?_
        refine lx_skip (want_if (j := 3) (d := 69) (x := false) (y := true) rfl rfl (by decide) rfl) ?_
        refine lx_value (want rfl) (pick_t rfl rfl) ?_
        refine lx_value (want rfl) (as_bool rfl) ?_
        refine lx_nil ?_
        refine wk_cond_t rfl ?_
        refine wk_seq ?_
        refine wk_region ?_
        refine lx_value (want rfl) (as_bool rfl) ?_
        refine lx_nil ?_
        refine wk_ret ?_
        refine retR1 Tryz.results100 (.tmp (t_bool rfl)) F9 ?_
        exact outB_no (((((((tw1L_1.ext Eb1).fr Es1 (fun k hk h => nb1 k hk h)).ext Eb2).fr Es2 (fun k hk h => nb2 k hk h)).ext E1).ext E2).ext E4) tg1L_1 ((belowF_eq hle).trans (hq.symm.trans (dfs_clash hv hw h4 h5 (hcl (by rw [hx1, hx2]; decide)))))
      ·
       refine mx_calm rfl (want rfl) (fun u24 eu24 fu24 => as_int rfl) ?_
       refine mx_nil (fun w7 E5' H4 HS => ?_)
       have E5 := (ext_drawn _).trans' E5'
       have F10 := F6.ext E5
       have hz5 := E5.size
       refine lx_value (want rfl) (as_bool rfl) ?_
       refine lx_nil ?_
       refine wk_seq ?_
       obtain ⟨bt2, bf2, hBR2, hTR2, hFR2⟩ := PO.parts ((((((tw1L_1.ext Eb1).fr Es1 (fun k hk h => nb1 k hk h)).ext Eb2).fr Es2 (fun k hk h => nb2 k hk h)).ext E1).ext E5)
       refine wk_mix 11 (fun _ => .none) (by kernel_rfl) (by kernel_rfl) (fun kS G hk => by cases hk) (fun kS s y G hk => by cases hk) ?_
       simp only [List.take_succ_cons, List.take_zero, List.take_nil, List.drop_succ_cons, List.drop_zero, List.drop_nil]
       refine mx_calm rfl (want rfl) (fun u25 eu25 fu25 => mv_pointer (A1.at 0 rfl rfl)) ?_
       refine mx_calm rfl (want rfl) (fun u26 eu26 fu26 => rn_nilCheck rfl) ?_
       refine mx_calm rfl (want rfl) (fun u27 eu27 fu27 => rn_fieldAddr fa_156_3 rfl) ?_
       refine mx_calm rfl (want rfl) (fun u28 eu28 fu28 => rn_load1 ag_154 rfl (((ext_drawn _).trans' eu28).cell (fun h => h) (hBR2.cell 5 rfl))) ?_
       refine mx_calm rfl (want rfl) (fun u29 eu29 fu29 => rn_fieldAddr fa_36_1 rfl) ?_
       refine mx_calm rfl (want rfl) (fun u30 eu30 fu30 => rn_load1Blk ag_3 rfl (((Bs2.ext E1).ext E5).ext ((ext_drawn _).trans' eu30)) rfl) ?_
       refine mx_calm (v := .tuple #[.int .i64 fq, .bool x2]) rfl (want rfl) (fun u31 eu31 fu31 => (by rw [← e2]; exact rn_lookOk mv_154 rfl rfl (MapB.v (hFR2.ext ((ext_drawn _).trans' eu31))))) ?_
       refine mx_calm rfl (want rfl) (fun u32 eu32 fu32 => mv_tuple rfl) ?_
       refine mx_calm rfl (want rfl) (fun u33 eu33 fu33 => rn_extract rfl rfl) ?_
       refine mx_calm rfl (want rfl) (fun u34 eu34 fu34 => rn_extract rfl rfl) ?_
       refine mx_split (fun hx2 => ?_) (fun hx2 => ?_)
       ·
        refine mx_calm rfl (want rfl) (fun u35 eu35 fu35 => as_int rfl) ?_
        refine mx_nil (fun w8 E6' H5 HS => ?_)
        have E6 := (ext_drawn _).trans' E6'
        have F11 := F10.ext E6
        have hz6 := E6.size
        refine lx_value (want rfl) (as_bool rfl) ?_
        refine lx_nil ?_
        refine wk_seq ?_
        refine wk_block ?_
        refine wk_seq ?_
        refine wk_region ?_
        refine lx_value (want rfl) (mv_bool rfl) ?_
        refine lx_value (want rfl) (mv_bool rfl) ?_
        refine lx_value (want rfl) (rn_neqB Tryz.underlying4 rfl rfl) ?_
        refine lx_dec_t (by decide) ?_
        refine lx_value (want rfl) (mv_bool rfl) ?_
        refine lx_skip (want_if (j := 3) (d := 69) (x := false) (y := true) rfl rfl (by decide) rfl) ?_
        refine lx_skip (want_if (j := 3) (d := 69) (x := false) (y := true) rfl rfl (by decide) rfl) ?_
        refine lx_skip (want_un (j := 5) (d := 71) (x := true) rfl rfl (by decide) rfl) ?_
        refine lx_skip (want_un (j := 5) (d := 71) (x := true) rfl rfl (by decide) rfl) ?_
        refine lx_skip (want_un (j := 5) (d := 71) (x := true) rfl rfl (by decide) rfl) ?_
        refine lx_skip (want_un (j := 5) (d := 71) (x := true) rfl rfl (by decide) rfl) ?_
        refine lx_skip (want_un (j := 5) (d := 71) (x := true) rfl rfl (by decide) rfl) ?_
        refine lx_skip (want_un (j := 10) (d := 76) (x := false) rfl rfl (by decide) rfl) ?_
        refine lx_skip (want_un (j := 10) (d := 76) (x := false) rfl rfl (by decide) rfl) ?_
        refine lx_skip (want_un (j := 10) (d := 76) (x := false) rfl rfl (by decide) rfl) ?_
        refine lx_skip (want_un (j := 10) (d := 76) (x := false) rfl rfl (by decide) rfl) ?_
        refine lx_skip (want_un (j := 5) (d := 71) (x := true) rfl rfl (by decide) rfl) ?_
        refine lx_skip (want_if (j := 3) (d := 69) (x := false) (y := true) rfl rfl (by decide) rfl) ?_
        refine lx_value (want rfl) (pick_t rfl rfl) ?_
        refine lx_value (want rfl) (as_bool rfl) ?_
        refine lx_nil ?_
        refine wk_cond_t rfl ?_
        refine wk_seq ?_
        refine wk_region ?_
        refine lx_value (want rfl) (as_bool rfl) ?_
        refine lx_nil ?_
        refine wk_ret ?_
        refine retR1 Tryz.results100 (.tmp (t_bool rfl)) F11 ?_
        exact outB_no (((((((tw1L_1.ext Eb1).fr Es1 (fun k hk h => nb1 k hk h)).ext Eb2).fr Es2 (fun k hk h => nb2 k hk h)).ext E1).ext E5).ext E6) tg1L_1 ((belowF_eq hle).trans (hq.symm.trans (dfs_clash hv hw h4 h5 (hcl (by rw [hx1, hx2]; decide)))))
       ·
        refine mx_calm rfl (want rfl) (fun u36 eu36 fu36 => as_int rfl) ?_
        refine mx_nil (fun w8 E7' H6 HS => ?_)
        have E7 := (ext_drawn _).trans' E7'
        have F12 := F10.ext E7
        have hz7 := E7.size
        refine lx_value (want rfl) (as_bool rfl) ?_
        refine lx_nil ?_
        refine wk_seq ?_
        refine wk_block ?_
        refine wk_seq ?_
        refine wk_region ?_
        refine lx_value (want rfl) (mv_bool rfl) ?_
        refine lx_value (want rfl) (mv_bool rfl) ?_
        refine lx_value (want rfl) (rn_neqB Tryz.underlying4 rfl rfl) ?_
        refine lx_dec_f (by decide) ?_
        refine lx_value (want rfl) (mv_bool rfl) ?_
        refine lx_value (want_if (j := 3) (d := 69) (x := false) (y := false) rfl rfl (by decide) rfl) (mv_bool rfl) ?_
        refine lx_value (want_if (j := 3) (d := 69) (x := false) (y := false) rfl rfl (by decide) rfl) (mv_bool rfl) ?_
        refine lx_skip (want_if (j := 5) (d := 71) (x := true) (y := false) rfl rfl (by decide) rfl) ?_
        refine lx_skip (want_if (j := 5) (d := 71) (x := true) (y := false) rfl rfl (by decide) rfl) ?_
        refine lx_skip (want_if (j := 5) (d := 71) (x := true) (y := false) rfl rfl (by decide) rfl) ?_
        refine lx_skip (want_if (j := 5) (d := 71) (x := true) (y := false) rfl rfl (by decide) rfl) ?_
        refine lx_skip (want_if (j := 5) (d := 71) (x := true) (y := false) rfl rfl (by decide) rfl) ?_
        refine lx_skip (want_un (j := 10) (d := 76) (x := false) rfl rfl (by decide) rfl) ?_
        refine lx_skip (want_un (j := 10) (d := 76) (x := false) rfl rfl (by decide) rfl) ?_
        refine lx_skip (want_un (j := 10) (d := 76) (x := false) rfl rfl (by decide) rfl) ?_
        refine lx_skip (want_un (j := 10) (d := 76) (x := false) rfl rfl (by decide) rfl) ?_
        refine lx_skip (want_if (j := 5) (d := 71) (x := true) (y := false) rfl rfl (by decide) rfl) ?_
        refine lx_value (want_if (j := 3) (d := 69) (x := false) (y := false) rfl rfl (by decide) rfl) (pick_f rfl rfl) ?_
        refine lx_value (want rfl) (pick_f rfl rfl) ?_
        refine lx_value (want rfl) (as_bool rfl) ?_
        refine lx_nil ?_
        refine wk_cond_f rfl ?_
        refine wk_seq ?_
        refine wk_region ?_
        refine lx_value (want rfl) (mv_bool rfl) ?_
        refine lx_value (want rfl) (as_bool rfl) ?_
        refine lx_nil ?_
        refine wk_cond_f rfl ?_
        refine wk_skip ?_
        refine wk_seq ?_
        have hnew := hnw hx1 hx2
        obtain ⟨bt, bf, hBm, hTm, hFm, hq1, hq2, hq3, hzb, hzt, hzf, _⟩ := (((((((tw1L_1.ext Eb1).fr Es1 (fun k hk h => nb1 k hk h)).ext Eb2).fr Es2 (fun k hk h => nb2 k hk h)).ext E1).ext E5).ext E7)
        have hlBm := hBm.lt; have hlTm := hTm.lt; have hlFm := hFm.lt
        have hn_b_1 : b ≠ b1 := nb1 b hzb
        have hn_b_2 : b ≠ b2 := nb2 b hzb
        have hn_bt_1 : bt ≠ b1 := nb1 bt hzt
        have hn_bt_2 : bt ≠ b2 := nb2 bt hzt
        have hn_bf_1 : bf ≠ b1 := nb1 bf hzf
        have hn_bf_2 : bf ≠ b2 := nb2 bf hzf
        refine wk_mixW 21 (fun j => match j with | 16 => (fun kq => kq = bt) | 18 => (fun kq => kq = bt) | 19 => (fun kq => kq = bf) | _ => no) (fun j (w w' : World) => match j with | 18 => ∀ n, MapS w bt kI (fstF Lq) vq.2 n → MapS w' bt kI (fstF Lq) vq.2 n | _ => True) (fun i => match i with | 16 => no | 17 => (fun kq => kq = bt) | 18 => (fun kq => kq = bt) | 19 => (fun kq => kq = bt) | 20 => (fun kq => kq = bt ∨ kq = bf) | _ => (fun kq => kq = bt ∨ kq = bf)) (fun kq => kq = bt ∨ kq = bf) (fun kS => match kS with | 16 => .any 102 (fun I v w => ∃ n : Nat, v = .tuple #[.int .i64 0, .int .i64 n] ∧ MapS w bt kI (fstF Lq) vq.2 n) | 17 => .any 103 (fun I v w => ∃ n : Nat, v = .int .i64 n ∧ MapS w bt kI (fstF Lq) vq.2 n) | 18 => .any 1000000 (fun I v w => MapB w bt kI (fun k' => if k' = vq.2 then some (.int .i64 wq.2) else (fstF Lq) k')) | 19 => .any 104 (fun I v w => ∃ n : Nat, v = .tuple #[.int .i64 0, .int .i64 n] ∧ MapS w bf kI (sndF Lq) wq.2 n) | 20 => .any 105 (fun I v w => ∃ n : Nat, v = .int .i64 n ∧ MapS w bf kI (sndF Lq) wq.2 n) | _ => .none) (by kernel_rfl) (by kernel_rfl) ⟨by intro i e G o hk ho; (try dsimp only at hk); split at hk <;> first | (cases hk; done) | (injection hk with hk1 hk2; subst hk1; first | exact .inl ((congrArg (fun q => Option.bind q Oper.dst) ho).symm.trans (by rfl)) | (refine .inr fun j oj hoj => ?_; obtain ⟨q1, q2⟩ := ghost_ok (by kernel_rfl) j oj hoj; exact ⟨q1, q2, fun G' hj h => by (try dsimp only at h); split at h <;> first | (cases h; done) | (exact absurd rfl hj) | (injection h with h1 _; first | (cases h1; done) | (exact absurd h1 (by decide)))⟩))⟩ (by intro i j hij hw k hk; (try dsimp only at hk); split at hk <;> (try exact hk.elim) <;> (try dsimp only) <;> split <;> first | exact hk | exact .inl hk | exact .inr hk | exact absurd rfl hij | exact absurd (hw.symm.trans (by kernel_rfl)) Bool.false_ne_true) (by intro j k hk; (try dsimp only at hk); split at hk <;> first | exact hk.elim | exact hk | exact .inl hk | exact .inr hk) (by intro kS e G hk j hkj hw I v w w' hR hX hG; (try dsimp only at hk); split at hk <;> first | (cases hk; done) | (injection hk with hk1 hk2; subst hk1; subst hk2; (try dsimp only at hR hX hG); split at hR <;> first | exact absurd rfl hkj | (obtain ⟨n, h1, h2⟩ := hG; exact ⟨n, h1, hX n h2⟩) | (obtain ⟨n, h1, h2⟩ := hG; exact ⟨n, h1, h2.ext hR⟩) | (obtain ⟨n, h1, h2⟩ := hG; exact ⟨n, h1, h2.fr hR (fun hs => hq3 hs)⟩) | exact hG.ext hR | exact hG.fr hR (fun hs => hq3 hs) | (obtain ⟨n, h1, h2⟩ := hG; exact ⟨n, h1, h2.ext hR⟩) | exact absurd (hw.symm.trans (by kernel_rfl)) Bool.false_ne_true)) ?_
        simp only [List.take_succ_cons, List.take_zero, List.take_nil, List.drop_succ_cons, List.drop_zero, List.drop_nil]
        refine mw_calm rfl (want rfl) (fun u37 eu37 fu37 => mv_pointer (A1.at 0 rfl rfl)) ?_
        refine mw_calm rfl (want rfl) (fun u38 eu38 fu38 => rn_nilCheck rfl) ?_
        refine mw_calm rfl (want rfl) (fun u39 eu39 fu39 => rn_fieldAddr fa_156_2 rfl) ?_
        refine mw_calm rfl (want rfl) (fun u40 eu40 fu40 => rn_load1Blk ag_154 rfl (hBm.fr (show Fr (fun kq => kq = bt ∨ kq = bf) _ _ from mG eu40) (fun h => h.elim (fun h => absurd h (by omega)) (fun h => (fun h => absurd h (by omega)) h))) rfl) ?_
        refine mw_calm rfl (want rfl) (fun u41 eu41 fu41 => rn_fieldAddr fa_36_1 rfl) ?_
        refine mw_calm rfl (want rfl) (fun u42 eu42 fu42 => rn_load1Blk ag_3 rfl ((((((Bs1.ext Eb2).ne Es2 (by omega)).ext E1).ext E5).ext E7).fr (show Fr (fun kq => kq = bt ∨ kq = bf) _ _ from mG eu42) (fun h => h.elim (fun h => absurd h (by omega)) (fun h => (fun h => absurd h (by omega)) h))) rfl) ?_
        refine mw_calm rfl (want rfl) (fun u43 eu43 fu43 => mv_pointer (A1.at 0 rfl rfl)) ?_
        refine mw_calm rfl (want rfl) (fun u44 eu44 fu44 => rn_nilCheck rfl) ?_
        refine mw_calm rfl (want rfl) (fun u45 eu45 fu45 => rn_fieldAddr fa_156_3 rfl) ?_
        refine mw_calm rfl (want rfl) (fun u46 eu46 fu46 => rn_load1Blk ag_154 rfl (hBm.fr (show Fr (fun kq => kq = bt ∨ kq = bf) _ _ from mG eu46) (fun h => h.elim (fun h => absurd h (by omega)) (fun h => (fun h => absurd h (by omega)) h))) rfl) ?_
        refine mw_calm rfl (want rfl) (fun u47 eu47 fu47 => rn_fieldAddr fa_36_1 rfl) ?_
        refine mw_calm rfl (want rfl) (fun u48 eu48 fu48 => rn_load1Blk ag_3 rfl ((((Bs2.ext E1).ext E5).ext E7).fr (show Fr (fun kq => kq = bt ∨ kq = bf) _ _ from mG eu48) (fun h => h.elim (fun h => absurd h (by omega)) (fun h => (fun h => absurd h (by omega)) h))) rfl) ?_
        refine mw_calm rfl (want rfl) (fun u49 eu49 fu49 => rn_fieldAddr fa_36_1 rfl) ?_
        refine mw_calm rfl (want rfl) (fun u50 eu50 fu50 => rn_load1Blk ag_3 rfl ((((Bs2.ext E1).ext E5).ext E7).fr (show Fr (fun kq => kq = bt ∨ kq = bf) _ _ from mG eu50) (fun h => h.elim (fun h => absurd h (by omega)) (fun h => (fun h => absurd h (by omega)) h))) rfl) ?_
        refine mw_calm rfl (want rfl) (fun u51 eu51 fu51 => rn_fieldAddr fa_36_1 rfl) ?_
        refine mw_calm rfl (want rfl) (fun u52 eu52 fu52 => rn_load1Blk ag_3 rfl ((((((Bs1.ext Eb2).ne Es2 (by omega)).ext E1).ext E5).ext E7).fr (show Fr (fun kq => kq = bt ∨ kq = bf) _ _ from mG eu52) (fun h => h.elim (fun h => absurd h (by omega)) (fun h => (fun h => absurd h (by omega)) h))) rfl) ?_
        refine mw_any rfl rfl (want rfl) (fun u53 eu53 fu53 => (do_mapEntryNew (k := vq.2) mv_154 rfl rfl (hTm.ext ((ext_drawn _).trans' (show Fr no _ _ from eu53))) hnew.2.1).mono (fun v w' h => ⟨⟨h.1, trivial⟩, h.2⟩)) (fun I102 v102 => ?_)
        refine mw_any rfl rfl (want rfl) (fun u54 eu54 fu54 => by obtain ⟨n102, rfl, hS102⟩ := fu54 102 _ rfl (show (102 : Nat) ∈ _ from by decide); exact do_value (rn_extract rfl rfl) ⟨⟨Fr.refl no _, trivial⟩, ⟨n102, rfl, hS102⟩⟩) (fun I103 v103 => ?_)
        refine mw_eff (e := 1000000) rfl (want rfl) (fun u55 eu55 fu55 => by obtain ⟨n103, rfl, hS103⟩ := fu55 103 _ rfl (show (103 : Nat) ∈ _ from by decide); exact (do_entryStore rfl rfl rfl hS103 hnew.2.1).mono (fun v w' h => ⟨⟨h.1.1, h.1.2⟩, h.2⟩)) (fun I1000000 v1000000 => ?_)
        refine mw_any rfl rfl (want rfl) (fun u56 eu56 fu56 => (do_mapEntryNew (k := wq.2) mv_154 rfl rfl (hFm.fr (show Fr (fun kq => kq = bt) _ _ from mG eu56) (fun h => (fun h => absurd h (by omega)) h)) hnew.2.2).mono (fun v w' h => ⟨⟨h.1, trivial⟩, h.2⟩)) (fun I104 v104 => ?_)
        refine mw_any rfl rfl (want rfl) (fun u57 eu57 fu57 => by obtain ⟨n104, rfl, hS104⟩ := fu57 104 _ rfl (show (104 : Nat) ∈ _ from by decide); exact do_value (rn_extract rfl rfl) ⟨⟨Fr.refl no _, trivial⟩, ⟨n104, rfl, hS104⟩⟩) (fun I105 v105 => ?_)
        refine mw_nil (fun w9 E8' H7 => ?_)
        have E8 := mG E8'
        have F13 := F12.new' E8 (fun kq => (fun h => h.elim (fun h => by rw [h]; exact (tg1L_1 bt hzt)) (fun h => (fun h => by rw [h]; exact (tg1L_1 bf hzf)) h)))
        have hz8 := E8.size
        have hE9_18 := H7 1000000 _ rfl
        (try dsimp only at hE9_18)
        obtain ⟨n105, rfl, hS105⟩ := (H7 105 _ rfl)
        refine lx_entryStore (want rfl) rfl rfl rfl hS105 hnew.2.2 ?_
        intro w10 Em1 HMEm1
        have F14 := F13.new' Em1 (fun k h => by have h : k = bf := h; rw [h]; exact (tg1L_1 bf hzf))
        have hzm1 := Em1.size
        refine lx_nil ?_
        refine wk_seq ?_
        have hT9 := MapB.of (hE9_18.ne Em1 (by omega)) (fun k => ((congrArg (fun z => if k = vq.2 then some (Value.int .i64 z) else fstF Lq k) (num_eq h0w).symm).trans (fstF_cons h0v (num wq) k)))
        have hF9 := MapB.of HMEm1 (fun k => ((congrArg (fun z => if k = wq.2 then some (Value.int .i64 z) else sndF Lq k) (num_eq h0v).symm).trans (sndF_cons h0w (num vq) k)))
        obtain ⟨Z5, hP5, hi5⟩ := po_mk (Z := TT1_1) (lo := w10.heap.size) (X := [.slice sva nva cva, .slice sA A.length cA, .slice svb nvb cvb, .slice sB B.length cB]) ((hBm.fr E8 (fun h => h.elim (fun h => absurd h (by omega)) (fun h => (fun h => absurd h (by omega)) h))).ne Em1 (by omega)) hT9 hF9 hq1 hq2 hq3 (.inl hzb) (.inl hzt) (.inl hzf)
        have tg1 : ∀ k, zz zn Z5 k → Z k ∨ w0.heap.size ≤ k := fun k hk => (hi5 k hk).elim (tg1L_1 k) (fun h => .inr (by omega))
        have tn1_1 : ∀ k, zz zn Z5 k → k ≠ b1 := fun k hk => (hi5 k hk).elim (nb1 k) (fun h => by have := (Bs1).lt; omega)
        have tn1_2 : ∀ k, zz zn Z5 k → k ≠ b2 := fun k hk => (hi5 k hk).elim (nb2 k) (fun h => by have := (Bs2).lt; omega)
        obtain ⟨dq, rfl⟩ : ∃ q, f = q + 1 := ⟨f - 1, by have := dfs_room hndq hltq hnew.1 hvl; omega⟩
        obtain ⟨xa, hxa⟩ : ∃ y, A[num vq]? = some y := ⟨_, List.getElem?_eq_getElem hvl⟩
        obtain ⟨xb, hxb⟩ : ∃ y, B[num wq]? = some y := ⟨_, List.getElem?_eq_getElem hwl⟩
        obtain ⟨bA, oA, rfl, hGA, sxa, cxa, hca, hpa⟩ := hVA _ xa hxa
        obtain ⟨bB, oB, rfl, hGB, sxb, cxb, hcb, hpb⟩ := hVB _ xb hxb
        obtain ⟨bt3, bf3, hBR3, _⟩ := PO.parts hP5
        refine wk_mix 19 (fun _ => .none) (by kernel_rfl) (by kernel_rfl) (fun kS G hk => by cases hk) (fun kS s y G hk => by cases hk) ?_
        simp only [List.take_succ_cons, List.take_zero, List.take_nil, List.drop_succ_cons, List.drop_zero, List.drop_nil]
        refine mx_calm rfl (want rfl) (fun u58 eu58 fu58 => mv_pointer (A1.at 0 rfl rfl)) ?_
        refine mx_calm rfl (want rfl) (fun u59 eu59 fu59 => mv_pointer (A1.at 0 rfl rfl)) ?_
        refine mx_calm rfl (want rfl) (fun u60 eu60 fu60 => rn_nilCheck rfl) ?_
        refine mx_calm rfl (want rfl) (fun u61 eu61 fu61 => rn_fieldAddr fa_156_0 rfl) ?_
        refine mx_calm rfl (want rfl) (fun u62 eu62 fu62 => rn_fieldAddr fa_45_1 rfl) ?_
        refine mx_calm rfl (want rfl) (fun u63 eu63 fu63 => rn_load1 ag_43 rfl (((ext_drawn _).trans' eu63).cell (fun h => h) (hBR3.cell 1 rfl))) ?_
        refine mx_calm rfl (want rfl) (fun u64 eu64 fu64 => rn_fieldAddr fa_36_1 rfl) ?_
        refine mx_calm rfl (want rfl) (fun u65 eu65 fu65 => rn_load1Blk ag_3 rfl ((((((((Bs1.ext Eb2).ne Es2 (by omega)).ext E1).ext E5).ext E7).fr E8 (fun h => h.elim (fun h => absurd h (by omega)) (fun h => (fun h => absurd h (by omega)) h))).ne Em1 (by omega)).ext ((ext_drawn _).trans' eu65)) rfl) ?_
        refine mx_calm rfl (want rfl) (fun u66 eu66 fu66 => rn_index (num vq) Tryz.underlying43 sz_30 rfl rfl (num_eq h0v).symm hvl) ?_
        refine mx_calm rfl (want rfl) (fun u67 eu67 fu67 => rn_load1 ag_30 rfl ((F14.ext ((ext_drawn _).trans' eu67)).cell (hGZ _ hGA) hca)) ?_
        refine mx_calm rfl (want rfl) (fun u68 eu68 fu68 => mv_pointer (A1.at 0 rfl rfl)) ?_
        refine mx_calm rfl (want rfl) (fun u69 eu69 fu69 => rn_nilCheck rfl) ?_
        refine mx_calm rfl (want rfl) (fun u70 eu70 fu70 => rn_fieldAddr fa_156_1 rfl) ?_
        refine mx_calm rfl (want rfl) (fun u71 eu71 fu71 => rn_fieldAddr fa_45_1 rfl) ?_
        refine mx_calm rfl (want rfl) (fun u72 eu72 fu72 => rn_load1 ag_43 rfl (((ext_drawn _).trans' eu72).cell (fun h => h) (hBR3.cell 3 rfl))) ?_
        refine mx_calm rfl (want rfl) (fun u73 eu73 fu73 => rn_fieldAddr fa_36_1 rfl) ?_
        refine mx_calm rfl (want rfl) (fun u74 eu74 fu74 => rn_load1Blk ag_3 rfl ((((((Bs2.ext E1).ext E5).ext E7).fr E8 (fun h => h.elim (fun h => absurd h (by omega)) (fun h => (fun h => absurd h (by omega)) h))).ne Em1 (by omega)).ext ((ext_drawn _).trans' eu74)) rfl) ?_
        refine mx_calm rfl (want rfl) (fun u75 eu75 fu75 => rn_index (num wq) Tryz.underlying43 sz_30 rfl rfl (num_eq h0w).symm hwl) ?_
        refine mx_calm rfl (want rfl) (fun u76 eu76 fu76 => rn_load1 ag_30 rfl ((F14.ext ((ext_drawn _).trans' eu76)).cell (hGZ _ hGB) hcb)) ?_
        refine mx_nil (fun w11 E9' H8 HS => ?_)
        have E9 := (ext_drawn _).trans' E9'
        have F15 := F14.ext E9
        have hz9 := E9.size
        refine lx_call (want rfl) (ent_func cf_100 (argsC (t_pointer rfl) (argsC (t_slice rfl) (argsC (t_slice rfl) args0)))) (hrec dq rfl Z5 ((num vq, num wq) :: Lq) xa xb sxa cxa sxb cxb w11 (fun k hk h => (tg1 k h).elim (hGZ k hk) (fun h9 => by have := hGl k hk; omega)) (fun k hk => Nat.lt_of_lt_of_le (hGl k hk) F15.size) (nd_cons hndq hnew.1) (lt_cons hltq hvl) (by rw [List.length_cons]; omega) (hA xa (List.mem_of_getElem? hxa)).2 (hB xb (List.mem_of_getElem? hxb)) (hA xa (List.mem_of_getElem? hxa)).1 (hP5.ext E9) (hpa.fr (vl_stab _) F15 hGZ) (hpb.fr (vl_stab _) F15 hGZ) (hVA.fr (vv_stab _) F15 hGZ) (hVB.fr (vv_stab _) F15 hGZ)) ?_
        rintro _ w12 E10 ⟨rfl, Z7, L7, hM7, hi7, hL7⟩
        have F16 := F15.new' E10 (fun k h => tg1 k h)
        have hz10 := E10.size
        have tg2 : ∀ k, zz zn Z7 k → Z k ∨ w0.heap.size ≤ k := fun k hk => (hi7 k hk).elim (tg1 k) (fun h => .inr (by omega))
        have tn2_1 : ∀ k, zz zn Z7 k → k ≠ b1 := fun k hk => (hi7 k hk).elim (tn1_1 k) (fun h => by have := (Bs1).lt; omega)
        have tn2_2 : ∀ k, zz zn Z7 k → k ≠ b2 := fun k hk => (hi7 k hk).elim (tn1_2 k) (fun h => by have := (Bs2).lt; omega)
        refine lx_split (fun hsm => ?_) (fun hsm => ?_)
        ·
         obtain ⟨L8, hL8⟩ := Option.isSome_iff_exists.1 hsm
         obtain rfl := hL7 L8 hL8
         have hnd8 := dfs_nd A B hin _ _ _ _ _ (nd_cons hndq hnew.1) (lt_cons hltq hvl) (refs_of (hA xa (List.mem_of_getElem? hxa)).2) (below_sub hL8)
         have hon := dfs_new_on hv hw h4 h5 hnew.1 (by rw [cellsAt_of hxa, cellsAt_of hxb]; exact hL8)
         refine lx_value (want rfl) (rn_not rfl) ?_
         refine lx_nil ?_
         refine wk_cond_f rfl ?_
         refine wk_skip ?_
         refine wk_region ?_
         refine lx_value (want rfl) (rn_add hs1_21 rfl (by omega)) ?_
         refine lx_value (want rfl) (mv_int rfl) ?_
         refine lx_nil ?_
         exact ⟨rfl, (((((((((((((((((((((((((((((((((((((((((((((((((((((((((((((((((((((((((((((((((((((((((((((((((((((((((((((((((((A1.up rfl _).up rfl _).up rfl _).up rfl _).up rfl _).up rfl _).none _).up rfl _).up rfl _).up rfl _).up rfl _).up rfl _).none _).up rfl _).up rfl _).up rfl _).up rfl _).up rfl _).up rfl _).up rfl _).up rfl _).up rfl _).up rfl _).up rfl _).up rfl _).up rfl _).up rfl _).up rfl _).up rfl _).up rfl _).up rfl _).up rfl _).up rfl _).up rfl _).up rfl _).up rfl _).up rfl _).up rfl _).up rfl _).up rfl _).up rfl _).up rfl _).up rfl _).up rfl _).up rfl _).up rfl _).up rfl _).up rfl _).up rfl _).up rfl _).up rfl _).up rfl _).up rfl _).up rfl _).up rfl _).up rfl _).up rfl _).up rfl _).up rfl _).up rfl _).up rfl _).up rfl _).up rfl _).up rfl _).up rfl _).up rfl _).up rfl _).up rfl _).up rfl _).up rfl _).up rfl _).up rfl _).up rfl _).up rfl _).up rfl _).up rfl _).up rfl _).up rfl _).up rfl _).up rfl _).up rfl _).up rfl _).up rfl _).up rfl _).up rfl _).up rfl _).up rfl _).up rfl _).none _).up rfl _).up rfl _).none _).up rfl _).up rfl _).up rfl _).up rfl _).up rfl _).up rfl _).up rfl _).up rfl _).up rfl _).up rfl _).up rfl _).up rfl _).up rfl _).up rfl _).up rfl _).up rfl _).up rfl _).up rfl _).up rfl _).up rfl _).up rfl _).up rfl _).up rfl _), Fr.between F0 F16 (by omega), _, (by omega), i + 1, L7, Z7, rfl, rfl, hM7, tg2, by have := (List.getElem?_eq_some_iff.1 hv).1; omega, (hon.symm.trans hq), hnd8.1, hnd8.2.1, (by have := hnd8.2.2; rw [List.length_cons] at this; omega)⟩
        ·
         have hnone := Option.not_isSome_iff_eq_none.1 (by rw [hsm]; exact Bool.false_ne_true)
         have hon := dfs_new_no hv hw h4 h5 hnew.1 (by rw [cellsAt_of hxa, cellsAt_of hxb]; exact hnone)
         refine lx_value (want rfl) (rn_not rfl) ?_
         refine lx_nil ?_
         refine wk_cond_t rfl ?_
         refine wk_seq ?_
         refine wk_region ?_
         refine lx_value (want rfl) (as_bool rfl) ?_
         refine lx_nil ?_
         refine wk_ret ?_
         refine retR1 Tryz.results100 (.tmp (t_bool rfl)) F16 ?_
         exact outB_no hM7 tg2 ((belowF_eq hle).trans (hq.symm.trans (hon)))
  ·
   refine lx_nil ?_
   refine wk_seq ?_
   refine wk_cond_f rfl ?_
   refine wk_exit ?_
   refine wk_seq ?_
   refine wk_region ?_
   refine lx_value (want rfl) (as_bool rfl) ?_
   refine lx_nil ?_
   refine wk_ret ?_
   refine retR1 Tryz.results100 (.tmp (t_bool rfl)) F1 ?_
   exact outB_yes tw1L_1 tg1L_1 ((belowF_eq hle).trans (hq.symm.trans (dfs_end hle hlt)))

theorem belowall_ct (b : Nat) (A B : List (List Vl)) (sva : Option Addr) (nva cva : Nat) (sA : Option Addr) (cA : Nat) (svb : Option Addr) (nvb cvb : Nat) (sB : Option Addr) (cB : Nat) (G : Nat → Prop) (hA : ∀ x ∈ A, x.length ≤ 1048576 ∧ ∀ v ∈ x, isVal v A.length = true) (hB : ∀ x ∈ B, ∀ v ∈ x, isVal v B.length = true) (hAl : A.length ≤ 1048576) : ∀ f, BelP Tryz.prog 100 b [.slice sva nva cva, .slice sA A.length cA, .slice svb nvb cvb, .slice sB B.length cB] A B sA sB G f := by
 intro f
 induction f with
 | zero => exact fun Z L l k s c s2 c2 w0 h1 h2 h3 h4 h5 h6 h7 h8 h9 h10 h11 h12 h13 => pbelow_ct Z b A B sva nva cva sA cA svb nvb cvb sB cB G 0 L l k s c s2 c2 h1 hA hB hAl h3 h4 h5 h6 h7 h8 (fun dq e => by omega) w0 h2 h9 h10 h11 h12 h13
 | succ f ih => exact fun Z L l k s c s2 c2 w0 h1 h2 h3 h4 h5 h6 h7 h8 h9 h10 h11 h12 h13 => pbelow_ct Z b A B sva nva cva sA cA svb nvb cvb sB cB G (f + 1) L l k s c s2 c2 h1 hA hB hAl h3 h4 h5 h6 h7 h8 (fun dq e => (Nat.succ.inj e) ▸ ih) w0 h2 h9 h10 h11 h12 h13

end Go.Proofs.YtnhgfmbmfjmonaaGreatDoor

/- What functions compute: rBuild. -/
import Derived.Test.YtnhgfmbmfjmonaaGreatDoorBuildsFacts
import Derived.Test.YtnhgfmbmfjmonaaGreatDoorBuildsPre
import Derived.Test.YtnhgfmbmfjmonaaGreatDoorBuildsWalk2
import Derived.Test.YtnhgfmbmfjmonaaGreatDoorBuildsWalk5
set_option maxRecDepth 100000
set_option linter.unusedVariables false
set_option linter.unusedSimpArgs false
namespace Go.Proofs.YtnhgfmbmfjmonaaGreatDoor
open Go Go.RowKit Go.Mix Go.Eng
set_option maxHeartbeats 4000000 in
set_option maxRecDepth 100000 in
theorem rBuild_ct (L : List (List Int)) (s : Option Addr) (c : Nat) (F : Nat → Prop) (C : List Bool) (s2 : Option Addr) (c2 : Nat) (F2 : Nat → Prop) (hLn : L.length ≤ 1048576) (hLl : ∀ l ∈ L, l.length ≤ 1048576) (hLs : sumI L ≤ 1048576) (w0 : World) (hl : IIS F w0 s L) (hc : BoS F2 w0 s2 C) :
  CT Tryz.prog 64 [.slice s L.length c, .slice s2 C.length c2] w0 no (fun v w => OutU w0.heap.size w v (buildE L C)) := by
 have F0 := Fr.refl no w0
 refine ct_body Tryz.func64 rfl Tryz.ntmps64 (Nat.le_of_ble_eq_true rfl) ?_
 refine wk_seq ?_
 refine wk_region ?_
 refine lx_new (want rfl) (rn_alloc ze_24) ?_
 intro b1 w1 hb1 Eb1 B1 hlb1
 have F1 := F0.ext Eb1
 have hzb1 := Eb1.size
 refine lx_value (want rfl) (as_slice rfl) ?_
 refine lx_value (want rfl) (as_int rfl) ?_
 refine lx_nil ?_
 refine wk_seq ?_
 refine wk_seq ?_
 refine wk_region ?_
 refine lx_value (want rfl) (mv_slice rfl) ?_
 refine lx_value (want rfl) (rn_len Tryz.underlying95 rfl) ?_
 refine lx_value (want rfl) (mv_slice rfl) ?_
 refine lx_value (want rfl) (rn_len Tryz.underlying96 rfl) ?_
 refine lx_value (want rfl) (rn_neq rfl rfl) ?_
 refine lx_dec (fun hne => ?_) (fun hne => ?_)
 ·
  refine lx_nil ?_
  refine wk_cond_t rfl ?_
  refine wk_seq ?_
  refine wk_region ?_
  refine lx_value (want rfl) (rn_build0  (fun w => bd_24  w)) ?_
  refine lx_set (want rfl) sz_24 rfl (t_agg rfl) rfl rfl rfl B1 (Nat.le_of_ble_eq_true rfl) ?_
  intro w2 Es1 Bs1
  have F2 := F1.set Es1 (by omega)
  have hzs1 := Es1.size
  refine lx_value (want rfl) (as_slice rfl) ?_
  refine lx_value (want rfl) (as_int rfl) ?_
  refine lx_nil ?_
  refine wk_ret ?_
  refine retR3 Tryz.results64 (.cell rfl (run_loadVar_blk ag_24 sz_24 Bs1 rfl rfl)) (.tmp (t_slice rfl)) (.tmp (t_int rfl)) F2 ?_
  first | exact outU_2 (by omega) | exact outU_3 hle (all2_no hx hy hin) | exact outU_5 hle (all2_end hA hlt) (by rw [← suI_end hlt]; omega)
 ·
  have hle : L.length = C.length := by omega
  refine lx_nil ?_
  refine wk_cond_f rfl ?_
  refine wk_skip ?_
  refine wk_seq ?_
  refine wk_region ?_
  refine lx_value (want rfl) (as_int rfl) ?_
  refine lx_nil ?_
  refine wk_seq ?_
  refine wk_seq ?_
  refine wk_region ?_
  refine lx_value (want rfl) (as_int rfl) ?_
  refine lx_nil ?_
  refine wk_block ?_
  refine wk_loopA [5, 6, 7, 8, 9, 21, 22, 23, 24, 25, 26, 27, 28, 29, 30, 31, 32, 33, 34, 35, 36, 37, 38, 39, 40, 41, 42, 43, 44, 45, 46, 47, 48, 49, 50, 51, 52] no (fun nM ρ w => ∃ (i : Nat), nM = L.length - i ∧ ρ 8 = .int .i64 i ∧ ρ 7 = .int .i64 (sumI (L.take i) : Nat) ∧ (i ≤ L.length) ∧ ((L.take i).all (fun l => l.all inI) = true)) _ ⟨0, rfl, rfl, rfl, Nat.zero_le _, rfl⟩ ?_
  rintro n1 ρ1 w2 A1 EL1 ⟨i, rfl, hs1_8, hs1_7, hi, hA⟩
  have F3 := F1.ext EL1
  have hzL1 := EL1.size
  refine wk_seq ?_
  refine wk_seq ?_
  refine wk_region ?_
  refine lx_value (want rfl) (mv_int hs1_8) ?_
  refine lx_value (want rfl) (mv_slice (A1.at 0 rfl rfl)) ?_
  refine lx_value (want rfl) (rn_len Tryz.underlying95 rfl) ?_
  refine lx_value (want rfl) (rn_lss rfl rfl) ?_
  refine lx_dec (fun hlt => ?_) (fun hlt => ?_)
  ·
   obtain ⟨x, hx⟩ := getx hlt
   obtain ⟨bx, ox, hsx, _, sx, cx, hcx, hpx⟩ := hl i x hx
   subst hsx
   have hxl := hLl x (List.mem_of_getElem? hx)
   have hst := suI_step hx
   have hsl := suI_le L (i + 1)
   refine lx_nil ?_
   refine wk_cond_t rfl ?_
   refine wk_skip ?_
   refine wk_seq ?_
   refine wk_block ?_
   refine wk_seq ?_
   refine wk_seq ?_
   refine wk_region ?_
   refine lx_value (want rfl) (as_int rfl) ?_
   refine lx_nil ?_
   refine wk_block ?_
   refine wk_loopA [5, 6, 9, 27, 28, 29, 30, 31, 32, 33, 34, 35, 36, 37, 38, 39, 40, 41, 42, 43, 44, 45] no (fun nM ρ w => ∃ (j : Nat), nM = x.length - j ∧ ρ 9 = .int .i64 j ∧ (j ≤ x.length) ∧ ((x.take j).all inI = true)) _ ⟨0, rfl, rfl, Nat.zero_le _, rfl⟩ ?_
   rintro n2 ρ2 w3 A2 EL2 ⟨j, rfl, hs2_9, hj, hB⟩
   have F4 := F3.ext EL2
   have hzL2 := EL2.size
   refine wk_seq ?_
   refine wk_seq ?_
   refine wk_region ?_
   refine lx_value (want rfl) (mv_int hs2_9) ?_
   refine lx_value (want rfl) (mv_slice (A2.at 0 rfl (A1.at 0 rfl rfl))) ?_
   refine lx_value (want rfl) (mv_int (A2.at 8 rfl hs1_8)) ?_
   refine lx_value (want rfl) (rn_index i Tryz.underlying95 sz_77 rfl rfl rfl (by omega)) ?_
   refine lx_value (want rfl) (rn_load1 ag_77 rfl (F4.cell (fun h => h) hcx)) ?_
   refine lx_value (want rfl) (rn_len Tryz.underlying77 rfl) ?_
   refine lx_value (want rfl) (rn_lss rfl rfl) ?_
   refine lx_dec (fun hlt2 => ?_) (fun hlt2 => ?_)
   ·
    obtain ⟨y, hy⟩ := getx hlt2
    obtain ⟨by_, oy, hsy, _, hcy⟩ := hpx j y hy
    subst hsy
    refine lx_nil ?_
    refine wk_cond_t rfl ?_
    refine wk_skip ?_
    refine wk_seq ?_
    refine wk_block ?_
    refine wk_seq ?_
    refine wk_region ?_
    refine lx_value (want rfl) (mv_slice (A2.at 0 rfl (A1.at 0 rfl rfl))) ?_
    refine lx_value (want rfl) (mv_int (A2.at 8 rfl hs1_8)) ?_
    refine lx_value (want rfl) (rn_index i Tryz.underlying95 sz_77 rfl rfl rfl (by omega)) ?_
    refine lx_value (want rfl) (rn_load1 ag_77 rfl (F4.cell (fun h => h) hcx)) ?_
    refine lx_value (want rfl) (mv_int hs2_9) ?_
    refine lx_value (want rfl) (rn_index j Tryz.underlying77 sz_3 rfl rfl rfl (by omega)) ?_
    refine lx_value (want rfl) (rn_load1 ag_3 rfl (F4.cell (fun h => h) (hcy 0 _ rfl))) ?_
    refine lx_call (want rfl) (ent_func cf_65 (argsC (t_int rfl) (argsC (t_int rfl) (argsC (t_int rfl) args0)))) (in_ct _ _ _ w3) ?_
    rintro _ w4 E1 rfl
    have F5 := F4.ext E1
    have hz1 := E1.size
    refine lx_split (fun hin => ?_) (fun hin => ?_)
    ·
     refine lx_value (want rfl) (rn_not rfl) ?_
     refine lx_nil ?_
     refine wk_cond_f rfl ?_
     refine wk_skip ?_
     refine wk_region ?_
     refine lx_value (want rfl) (mv_int hs2_9) ?_
     refine lx_value (want rfl) (rn_add rfl rfl (by omega)) ?_
     refine lx_value (want rfl) (as_int rfl) ?_
     refine lx_nil ?_
     exact ⟨rfl, (((((((((((((((((((A2.up rfl _).up rfl _).up rfl _).up rfl _).up rfl _).up rfl _).up rfl _).up rfl _).up rfl _).up rfl _).up rfl _).up rfl _).up rfl _).up rfl _).up rfl _).up rfl _).up rfl _).up rfl _).up rfl _), (Fr.ext EL2 E1), _, (by omega), j + 1, rfl, rfl, by omega, (all_step hB hy hin)⟩
    ·
     refine lx_value (want rfl) (rn_not rfl) ?_
     refine lx_nil ?_
     refine wk_cond_t rfl ?_
     refine wk_seq ?_
     refine wk_region ?_
     refine lx_value (want rfl) (rn_build0  (fun w => bd_24  w)) ?_
     refine lx_set (want rfl) sz_24 (A2.at 4 rfl (A1.at 4 rfl rfl)) (t_agg rfl) rfl rfl rfl (((B1.ext EL1).ext EL2).ext E1) (Nat.le_of_ble_eq_true rfl) ?_
     intro w5 Es2 Bs2
     have F6 := F5.set Es2 (by omega)
     have hzs2 := Es2.size
     refine lx_value (want rfl) (as_slice rfl) ?_
     refine lx_value (want rfl) (as_int rfl) ?_
     refine lx_nil ?_
     refine wk_ret ?_
     refine retR3 Tryz.results64 (.cell (A2.at 4 rfl (A1.at 4 rfl rfl)) (run_loadVar_blk ag_24 sz_24 Bs2 rfl rfl)) (.tmp (t_slice rfl)) (.tmp (t_int rfl)) F6 ?_
     first | exact outU_2 (by omega) | exact outU_3 hle (all2_no hx hy hin) | exact outU_5 hle (all2_end hA hlt) (by rw [← suI_end hlt]; omega)
   ·
    refine lx_nil ?_
    refine wk_cond_f rfl ?_
    refine wk_exit ?_
    refine wk_region ?_
    refine lx_value (want rfl) (mv_int (A2.at 7 rfl hs1_7)) ?_
    refine lx_value (want rfl) (mv_slice (A2.at 0 rfl (A1.at 0 rfl rfl))) ?_
    refine lx_value (want rfl) (mv_int (A2.at 8 rfl hs1_8)) ?_
    refine lx_value (want rfl) (rn_index i Tryz.underlying95 sz_77 rfl rfl rfl (by omega)) ?_
    refine lx_value (want rfl) (rn_load1 ag_77 rfl (F4.cell (fun h => h) hcx)) ?_
    refine lx_value (want rfl) (rn_len Tryz.underlying77 rfl) ?_
    refine lx_value (want rfl) (rn_addN rfl rfl (by omega)) ?_
    refine lx_value (want rfl) (as_int rfl) ?_
    refine lx_nil ?_
    refine wk_region ?_
    refine lx_value (want rfl) (mv_int (A2.at 8 rfl hs1_8)) ?_
    refine lx_value (want rfl) (rn_add rfl rfl (by omega)) ?_
    refine lx_value (want rfl) (as_int rfl) ?_
    refine lx_nil ?_
    exact ⟨rfl, ((((((((((((((((((((((((A1.up rfl _).up rfl _).up rfl _).up rfl _).up rfl _).loop A2 rfl).up rfl _).up rfl _).up rfl _).up rfl _).up rfl _).up rfl _).up rfl _).up rfl _).up rfl _).up rfl _).up rfl _).up rfl _).up rfl _).up rfl _).up rfl _).up rfl _).up rfl _).up rfl _), (Fr.ext EL1 EL2), _, (by omega), i + 1, rfl, rfl, (by rw [hst]; exact rfl), by omega, (all2 hA hx (all_end hB hlt2))⟩
  ·
   refine lx_nil ?_
   refine wk_cond_f rfl ?_
   refine wk_exit ?_
   refine wk_seq ?_
   refine wk_seq ?_
   refine wk_region ?_
   refine lx_value (want rfl) (mv_int hs1_7) ?_
   refine lx_value (want rfl) (rn_gtr rfl rfl) ?_
   refine lx_dec (fun h400 => ?_) (fun h400 => ?_)
   ·
    refine lx_nil ?_
    refine wk_cond_t rfl ?_
    refine wk_seq ?_
    refine wk_region ?_
    refine lx_value (want rfl) (rn_build0  (fun w => bd_24  w)) ?_
    refine lx_set (want rfl) sz_24 (A1.at 4 rfl rfl) (t_agg rfl) rfl rfl rfl (B1.ext EL1) (Nat.le_of_ble_eq_true rfl) ?_
    intro w3 Es3 Bs3
    have F7 := F3.set Es3 (by omega)
    have hzs3 := Es3.size
    refine lx_value (want rfl) (as_slice rfl) ?_
    refine lx_value (want rfl) (as_int rfl) ?_
    refine lx_nil ?_
    refine wk_ret ?_
    refine retR3 Tryz.results64 (.cell (A1.at 4 rfl rfl) (run_loadVar_blk ag_24 sz_24 Bs3 rfl rfl)) (.tmp (t_slice rfl)) (.tmp (t_int rfl)) F7 ?_
    first | exact outU_2 (by omega) | exact outU_3 hle (all2_no hx hy hin) | exact outU_5 hle (all2_end hA hlt) (by rw [← suI_end hlt]; omega)
   ·
    have hAL := all2_end hA hlt
    have h4L : sumI L ≤ 400 := by rw [← suI_end hlt]; omega
    refine lx_nil ?_
    refine wk_cond_f rfl ?_
    refine wk_skip ?_
    refine wk_seq ?_
    refine wk_region ?_
    refine lx_value (want rfl) (rn_build0  (fun w => bd_24  w)) ?_
    refine lx_new (want rfl) (rn_alloc ze_24) ?_
    intro b2 w3 hb2 Eb2 B2 hlb2
    have F8 := F3.ext Eb2
    have hzb2 := Eb2.size
    refine lx_set (want rfl) sz_24 rfl (t_agg rfl) rfl rfl rfl B2 (Nat.le_of_ble_eq_true rfl) ?_
    intro w4 Es4 Bs4
    have F9 := F8.set Es4 (by omega)
    have hzs4 := Es4.size
    refine lx_nil ?_
    refine wk_seq ?_
    refine wk_region ?_
    refine lx_value (want rfl) (as_slice rfl) ?_
    refine lx_nil ?_
    refine wk_seq ?_
    refine wk_seq ?_
    refine wk_region ?_
    refine lx_value (want rfl) (as_int rfl) ?_
    refine lx_nil ?_
    refine wk_block ?_
    refine wk_loopA [11, 12, 13, 14, 57, 58, 59, 60, 61, 62, 63, 64, 65, 66, 67, 68, 69, 70, 71, 72, 73, 74, 75, 76, 77, 78, 79, 80, 81, 82, 83, 84, 85, 86, 87, 88, 89, 90, 91, 92, 93, 94, 95, 96, 97, 98, 99, 100, 101, 102, 103, 104, 105, 106, 107, 108, 109, 110, 111, 112, 113, 114, 115, 116] (fun j => no j ∨ w0.heap.size ≤ j) (fun nM ρ w => ∃ (i : Nat) (so3_2 : Option Addr) (co3_2 : Nat) (st3_1 : Option Addr) (ct3_1 : Nat) (TT3_1 : List (SE Vl Rd)), nM = L.length - i ∧ ρ 12 = .int .i64 i ∧ Blk w b1 (cellsOf B1) 24 ∧ Blk w b2 [.slice st3_1 TT3_1.length ct3_1] 24 ∧ ρ 11 = .slice so3_2 ((buN L C i).2.length) co3_2 ∧ OwnS w 36 2 so3_2 ((buN L C i).2.length) co3_2 ((buN L C i).2.flatMap vlC) ∧ (∀ k, ob so3_2 k → w0.heap.size ≤ k) ∧ (∀ k, ob so3_2 k → k ≠ b1) ∧ (∀ k, ob so3_2 k → k ≠ b2) ∧ MTab w 65 36 2 vlC 115 2 rdC st3_1 ct3_1 TT3_1 ∧ (∀ k, mtb st3_1 TT3_1 k → w0.heap.size ≤ k) ∧ (∀ k, mtb st3_1 TT3_1 k → k ≠ b1) ∧ (∀ k, mtb st3_1 TT3_1 k → k ≠ b2) ∧ (∀ k, mtb st3_1 TT3_1 k → ob so3_2 k → False) ∧ (i ≤ L.length) ∧ (TT3_1.map SE.abs = memC (buN L C i).1)) _ ⟨0, none, 0, none, 0, ([] : List (SE Vl Rd)), rfl, rfl, (((B1.ext EL1).ext Eb2).ne Es4 (by omega)), Bs4, rfl, (OwnS.nil w4 36 2), (fun _ h => ob_none h), (fun _ h => ob_none h), (fun _ h => ob_none h), (MTab.nil w4 65 36 2 vlC 115 2 rdC), (fun _ h => mtb_nil h), (fun _ h => mtb_nil h), (fun _ h => mtb_nil h), (fun _ _ h => ob_none h), Nat.zero_le _, rfl⟩ ?_
    rintro n3 ρ3 w5 A3 EL3 ⟨i, so3_2, co3_2, st3_1, ct3_1, TT3_1, rfl, hs3_12, BL3_1, BL3_2, ho3_2, ow3L_2, ge3L_2, ne3L_2_1, ne3L_2_2, tw3L_1, tg3L_1, tn3L_1_1, tn3L_1_2, ts3L_1_2, hi, hT⟩
    have F10 := F9.wide EL3
    have hzL3 := EL3.size
    refine wk_seq ?_
    refine wk_seq ?_
    refine wk_region ?_
    refine lx_value (want rfl) (mv_int hs3_12) ?_
    refine lx_value (want rfl) (mv_slice (A3.at 0 rfl (A1.at 0 rfl rfl))) ?_
    refine lx_value (want rfl) (rn_len Tryz.underlying95 rfl) ?_
    refine lx_value (want rfl) (rn_lss rfl rfl) ?_
    refine lx_dec (fun hlt => ?_) (fun hlt => ?_)
    ·
     obtain ⟨x, hx⟩ := getx hlt
     obtain ⟨bx, ox, hsx, _, sx, cx, hcx, hpx⟩ := hl i x hx
     subst hsx
     have hxl := hLl x (List.mem_of_getElem? hx)
     have hst := suI_step hx
     have hsl := suI_le L (i + 1)
     obtain ⟨cq, hcq⟩ : ∃ q, C[i]? = some q := ⟨_, List.getElem?_eq_getElem (by omega)⟩
     have hbq := bo_at hcq
     obtain ⟨bc, oc, hsc, _, hcc⟩ := hc i cq hcq
     subst hsc
     have hTl : TT3_1.length = sumI (L.take i) := by have := congrArg List.length hT; rwa [List.length_map, memC_len, buN_len] at this
     refine lx_nil ?_
     refine wk_cond_t rfl ?_
     refine wk_skip ?_
     refine wk_seq ?_
     refine wk_block ?_
     refine wk_seq ?_
     refine wk_region ?_
     refine lx_value (want rfl) (rn_fieldAddr fa_24_0 (A3.at 10 rfl rfl)) ?_
     refine lx_value (want rfl) (rn_load1Blk ag_22 rfl BL3_2 rfl) ?_
     refine lx_value (v := .int .i64 ((sumI (L.take i) : Nat) : Int)) (want rfl) ((by rw [← hTl]; exact rn_len Tryz.underlying22 rfl)) ?_
     refine lx_value (want rfl) (as_int rfl) ?_
     refine lx_nil ?_
     refine wk_seq ?_
     refine wk_seq ?_
     refine wk_region ?_
     refine lx_value (want rfl) (as_int rfl) ?_
     refine lx_nil ?_
     refine wk_block ?_
     refine wk_loopA [14, 66, 67, 68, 69, 70, 71, 72, 73, 74, 75, 76, 77, 78, 79, 80, 81, 82, 83, 84, 85, 86, 87, 88, 89, 90, 91, 92, 93, 94, 95, 96, 97, 98, 99, 100, 101, 102] (fun j => no j ∨ w0.heap.size ≤ j) (fun nM ρ w => ∃ (j : Nat) (so4_2 : Option Addr) (co4_2 : Nat) (st4_1 : Option Addr) (ct4_1 : Nat) (TT4_1 : List (SE Vl Rd)), nM = x.length - j ∧ ρ 14 = .int .i64 j ∧ ρ 12 = .int .i64 i ∧ ρ 13 = .int .i64 ((sumI (L.take i) : Nat) : Int) ∧ Blk w b1 (cellsOf BL3_1) 24 ∧ Blk w b2 [.slice st4_1 TT4_1.length ct4_1] 24 ∧ ρ 11 = .slice so4_2 ((buN L C i).2.length) co4_2 ∧ OwnS w 36 2 so4_2 ((buN L C i).2.length) co4_2 ((buN L C i).2.flatMap vlC) ∧ (∀ k, ob so4_2 k → w0.heap.size ≤ k) ∧ (∀ k, ob so4_2 k → k ≠ b1) ∧ (∀ k, ob so4_2 k → k ≠ b2) ∧ MTab w 65 36 2 vlC 115 2 rdC st4_1 ct4_1 TT4_1 ∧ (∀ k, mtb st4_1 TT4_1 k → w0.heap.size ≤ k) ∧ (∀ k, mtb st4_1 TT4_1 k → k ≠ b1) ∧ (∀ k, mtb st4_1 TT4_1 k → k ≠ b2) ∧ (∀ k, mtb st4_1 TT4_1 k → ob so4_2 k → False) ∧ (j ≤ x.length) ∧ (TT4_1.map SE.abs = memC (buI L C i x j))) _ ⟨0, so3_2, co3_2, st3_1, ct3_1, TT3_1, rfl, rfl, hs3_12, rfl, BL3_1, BL3_2, ho3_2, ow3L_2, ge3L_2, ne3L_2_1, ne3L_2_2, tw3L_1, tg3L_1, tn3L_1_1, tn3L_1_2, ts3L_1_2, Nat.zero_le _, (by rw [buI_0]; exact hT)⟩ ?_
     rintro n4 ρ4 w6 A4 EL4 ⟨j, so4_2, co4_2, st4_1, ct4_1, TT4_1, rfl, hs4_14, hs4_12, hs4_13, BL4_1, BL4_2, ho4_2, ow4L_2, ge4L_2, ne4L_2_1, ne4L_2_2, tw4L_1, tg4L_1, tn4L_1_1, tn4L_1_2, ts4L_1_2, hj, hT2⟩
     have F11 := F10.wide EL4
     have hzL4 := EL4.size
     refine wk_seq ?_
     refine wk_seq ?_
     refine wk_region ?_
     refine lx_value (want rfl) (mv_int hs4_14) ?_
     refine lx_value (want rfl) (mv_slice (A4.at 0 rfl (A3.at 0 rfl (A1.at 0 rfl rfl)))) ?_
     refine lx_value (want rfl) (mv_int hs4_12) ?_
     refine lx_value (want rfl) (rn_index i Tryz.underlying95 sz_77 rfl rfl rfl (by omega)) ?_
     refine lx_value (want rfl) (rn_load1 ag_77 rfl (F11.cell (fun h => h) hcx)) ?_
     refine lx_value (want rfl) (rn_len Tryz.underlying77 rfl) ?_
     refine lx_value (want rfl) (rn_lss rfl rfl) ?_
     refine lx_dec (fun hlt2 => ?_) (fun hlt2 => ?_)
     ·
      obtain ⟨y, hy⟩ := getx hlt2
      obtain ⟨by_, oy, hsy, _, hcy⟩ := hpx j y hy
      subst hsy
      have hTl : TT4_1.length = sumI (L.take i) + j := by have := congrArg List.length hT2; rwa [List.length_map, memC_len, buI_len hj] at this
      refine lx_nil ?_
      refine wk_cond_t rfl ?_
      refine wk_skip ?_
      refine wk_seq ?_
      refine wk_block ?_
      have hTo := tw4L_1
      have hSl : ∀ k, (ob st4_1) k → k < w6.heap.size := fun k h => (tw4L_1).lt (.inl h)
      refine wk_mixA 27 26 (ob st4_1) (fun kS => match kS with | 9 => .val (.agg #[.int .u8 1, .int .i64 y]) | 22 => .val (.agg #[.int .u8 (restV (sumI (L.take i)) (j + 1) x.length (endV (C.getD i false))).1, .int .i64 (restV (sumI (L.take i)) (j + 1) x.length (endV (C.getD i false))).2]) | 23 => .any (fun I v w => ∃ s c, v = .slice s [(1, y), restV (sumI (L.take i)) (j + 1) x.length (endV (C.getD i false))].length c ∧ OwnS w 36 2 s [(1, y), restV (sumI (L.take i)) (j + 1) x.length (endV (C.getD i false))].length c ([(1, y), restV (sumI (L.take i)) (j + 1) x.length (endV (C.getD i false))].flatMap vlC) ∧ ∀ k, ob s k → w6.heap.size ≤ k) | 24 => .any (fun I v w => ∃ s c, v = .agg #[.slice s [(1, y), restV (sumI (L.take i)) (j + 1) x.length (endV (C.getD i false))].length c, .slice none 0 0] ∧ OwnS w 36 2 s [(1, y), restV (sumI (L.take i)) (j + 1) x.length (endV (C.getD i false))].length c ([(1, y), restV (sumI (L.take i)) (j + 1) x.length (endV (C.getD i false))].flatMap vlC) ∧ ∀ k, ob s k → w6.heap.size ≤ k) | 25 => .any (fun I v w => ∃ b s c, v = .slice (some ⟨b, 0, none⟩) 1 1 ∧ w6.heap.size ≤ b ∧ Blk w b [.slice s [(1, y), restV (sumI (L.take i)) (j + 1) x.length (endV (C.getD i false))].length c, .slice none 0 0] 65 ∧ OwnS w 36 2 s [(1, y), restV (sumI (L.take i)) (j + 1) x.length (endV (C.getD i false))].length c ([(1, y), restV (sumI (L.take i)) (j + 1) x.length (endV (C.getD i false))].flatMap vlC) ∧ ∀ k, ob s k → w6.heap.size ≤ k) | 26 => .any (fun I v w => ∃ (e : SE Vl Rd) (s : Option Addr) (c : Nat), v = .slice s (TT4_1 ++ [e]).length c ∧ e.abs = ([(1, y), restV (sumI (L.take i)) (j + 1) x.length (endV (C.getD i false))], []) ∧ MTab w 65 36 2 vlC 115 2 rdC s c (TT4_1 ++ [e]) ∧ ∀ k, mtb s (TT4_1 ++ [e]) k → (mtb st4_1 TT4_1 k ∨ w6.heap.size ≤ k)) | _ => .none) (by kernel_rfl) (by kernel_rfl) (by intro kS G hk; (try dsimp only at hk); (split at hk) <;> first | (cases hk; done) | (injection hk with hk; subst hk; exact ⟨by intro j hkj I v w w' hR hG; first | exact hG | (obtain ⟨s, c, h1, h4, h5⟩ := hG; exact ⟨s, c, h1, h4.fr (mS hR) (fun k hk hs => by have := h5 k hk; have := hTo.out.lt hs; omega), h5⟩) | (obtain ⟨b, s, c, h1, h2, h3, h4, h5⟩ := hG; exact ⟨b, s, c, h1, h2, h3.fr (mS hR) (fun hs => by have := hTo.out.lt hs; omega), h4.fr (mS hR) (fun k hk hs => by have := h5 k hk; have := hTo.out.lt hs; omega), h5⟩) | (obtain ⟨e, s, c, h1, h2, h3, h4⟩ := hG; exact ⟨e, s, c, h1, h2, h3.ext (mT hkj hR), h4⟩) | (obtain ⟨s, c, h1, h4, h5⟩ := hG; exact ⟨s, c, h1, h4.fr (mS hR) (fun k hk hs => by have := h5 k hk; have := hTo.out.lt hs; omega), h5⟩), fun ⟨_, _, _, _, hs⟩ => by (try dsimp only at hs); split at hs <;> cases hs⟩)) (by intro kS s y G hk; (try dsimp only at hk); split at hk <;> cases hk) ?_
      simp only [List.take_succ_cons, List.take_zero, List.take_nil, List.drop_succ_cons, List.drop_zero, List.drop_nil]
      refine mx_calm rfl (want rfl) (fun u1 eu1 fu1 => rn_fieldAddr fa_24_0 (A4.at 10 rfl (A3.at 10 rfl rfl))) ?_
      refine mx_calm rfl (want rfl) (fun u2 eu2 fu2 => rn_load1Blk ag_22 rfl (BL4_2.fr (mD (by decide) eu2) (fun h => tn4L_1_2 _ (.inl h) rfl)) rfl) ?_
      refine mx_calm rfl (want rfl) (fun u3 eu3 fu3 => mv_slice (A4.at 0 rfl (A3.at 0 rfl (A1.at 0 rfl rfl)))) ?_
      refine mx_calm rfl (want rfl) (fun u4 eu4 fu4 => mv_int hs4_12) ?_
      refine mx_calm rfl (want rfl) (fun u5 eu5 fu5 => rn_index i Tryz.underlying95 sz_77 rfl rfl rfl (by omega)) ?_
      refine mx_calm rfl (want rfl) (fun u6 eu6 fu6 => rn_load1 ag_77 rfl ((F11.new (mD (by decide) eu6) (fun k h => tg4L_1 k (.inl h))).cell (fun h => h) hcx)) ?_
      refine mx_calm rfl (want rfl) (fun u7 eu7 fu7 => mv_int hs4_14) ?_
      refine mx_calm rfl (want rfl) (fun u8 eu8 fu8 => rn_index j Tryz.underlying77 sz_3 rfl rfl rfl (by omega)) ?_
      refine mx_calm rfl (want rfl) (fun u9 eu9 fu9 => rn_load1 ag_3 rfl ((F11.new (mD (by decide) eu9) (fun k h => tg4L_1 k (.inl h))).cell (fun h => h) (hcy 0 _ rfl))) ?_
      refine mx_val rfl (want rfl) (fun u10 eu10 fu10 => do_call (ent_func cf_41 (argsC (t_int rfl) args0)) (int_ct _ u10) (fun _ _ E h => ⟨(mE (by decide) E), h⟩)) ?_
      refine mx_calm rfl (want rfl) (fun u11 eu11 fu11 => mv_int hs4_13) ?_
      refine mx_calm rfl (want rfl) (fun u12 eu12 fu12 => mv_int hs4_14) ?_
      refine mx_calm rfl (want rfl) (fun u13 eu13 fu13 => rn_add rfl rfl (by omega)) ?_
      refine mx_calm rfl (want rfl) (fun u14 eu14 fu14 => mv_slice (A4.at 0 rfl (A3.at 0 rfl (A1.at 0 rfl rfl)))) ?_
      refine mx_calm rfl (want rfl) (fun u15 eu15 fu15 => mv_int hs4_12) ?_
      refine mx_calm rfl (want rfl) (fun u16 eu16 fu16 => rn_index i Tryz.underlying95 sz_77 rfl rfl rfl (by omega)) ?_
      refine mx_calm rfl (want rfl) (fun u17 eu17 fu17 => rn_load1 ag_77 rfl ((F11.new (mD (by decide) eu17) (fun k h => tg4L_1 k (.inl h))).cell (fun h => h) hcx)) ?_
      refine mx_calm rfl (want rfl) (fun u18 eu18 fu18 => rn_len Tryz.underlying77 rfl) ?_
      refine mx_calm rfl (want rfl) (fun u19 eu19 fu19 => mv_slice (A4.at 1 rfl (A3.at 1 rfl (A1.at 1 rfl rfl)))) ?_
      refine mx_calm rfl (want rfl) (fun u20 eu20 fu20 => mv_int hs4_12) ?_
      refine mx_calm rfl (want rfl) (fun u21 eu21 fu21 => rn_index i Tryz.underlying96 sz_4 rfl rfl rfl (by omega)) ?_
      refine mx_calm rfl (want rfl) (fun u22 eu22 fu22 => rn_load1 ag_4 rfl ((F11.new (mD (by decide) eu22) (fun k h => tg4L_1 k (.inl h))).cell (fun h => h) (hcc 0 _ rfl))) ?_
      refine mx_val rfl (want rfl) (fun u23 eu23 fu23 => do_call (ent_func cf_109 (argsC (t_int rfl) (argsC (t_int rfl) (argsC (t_int rfl) (argsC (t_bool rfl) args0))))) (rest_ct (sumI (L.take i)) (j + 1) x.length cq (by omega) (by omega) u23) (fun _ _ E h => ⟨(mE (by decide) E), (by rw [← hbq] at h; exact h)⟩)) ?_
      refine mx_any rfl rfl (want rfl) (fun u24 eu24 fu24 => (do_newS2 (rn_bslice (xs := [.tmp 84, .tmp 97]) Tryz.underlying30 sz_36 ze_36 rfl (argsC (t_agg rfl) (argsC (t_agg rfl) args0)) (CL.cons rfl rfl (CL.cons rfl rfl CL.nil)) rfl (Nat.le_of_ble_eq_true rfl)) (show _ ≤ _ from ((mD (by decide) eu24)).size)).mono (fun v w' h => ⟨(mE (by decide) h.1), by obtain ⟨h1, b, h2, h3, _, h4⟩ := h; exact ⟨_, _, h2, OwnS.full (n := 2) (size := 2) h4 rfl (by decide), fun k hk => by have := ob_some hk; omega⟩⟩)) (fun I98 v98 => ?_)
      refine mx_any rfl rfl (want rfl) (fun u25 eu25 fu25 => by obtain ⟨s, c, rfl, h23, hg23⟩ := fu25 98 _ rfl (show (98 : Nat) ∈ _ from by decide); exact do_value (rn_build1 (t_slice rfl) (fun w => bd_65_0 _ _ _ w)) ⟨(mE (by decide) (Fr.refl no _)), ⟨s, c, rfl, h23, hg23⟩⟩) (fun I99 v99 => ?_)
      refine mx_any rfl rfl (want rfl) (fun u26 eu26 fu26 => by obtain ⟨s, c, rfl, h23, hg23⟩ := fu26 99 _ rfl (show (99 : Nat) ∈ _ from by decide); exact (do_newS2 (rn_bslice (xs := [.tmp 99]) Tryz.underlying22 sz_65 ze_65 rfl (argsC (t_agg rfl) args0) (CL.cons rfl rfl CL.nil) rfl (Nat.le_of_ble_eq_true rfl)) (show _ ≤ _ from ((mD (by decide) eu26)).size)).mono (fun v w' h => ⟨(mE (by decide) h.1), by obtain ⟨h1, b, h2, h3, _, h4⟩ := h; exact ⟨b, s, c, h2, h3, h4, h23.ext h1, hg23⟩⟩)) (fun I100 v100 => ?_)
      refine mx_any rfl rfl (want rfl) (fun u27 eu27 fu27 => by obtain ⟨b29, s1, c1, rfl, hb29, hB29, h1, hg1⟩ := fu27 100 _ rfl (show (100 : Nat) ∈ _ from by decide); exact do_append 48 Tryz.underlying22 ti_65 (by decide) rfl (by decide) rfl rfl (tw4L_1.ext (mC eu27)).out (Src.blk hB29 rfl rfl) (by rw [hTl]; omega) (fun sA cA wA AP => ⟨(mF AP.fr), by obtain ⟨g1, g2⟩ := MTab.snoc (e := ((s1, c1, [(1, y), restV (sumI (L.take i)) (j + 1) x.length (endV (C.getD i false))]), (none, 0, []))) (tw4L_1.ext (mC eu27)) h1 (OwnS.nil _ _ _) (fun k _ h => ob_none h) (fun k hk hb => by have := hTo.lt hb; rcases hk with hk | hk; have := hg1 k hk; omega; exact ob_none hk) AP; exact ⟨_, sA, cA, by simp, rfl, g1, fun k hk => (g2 k hk).elim .inl (fun h => .inr (h.elim (fun h => h.elim (hg1 k) (fun h => ob_none h)) (fun h => Nat.le_trans (mC eu27).size h)))⟩⟩)) (fun I101 v101 => ?_)
      refine mx_nil (fun w7 E2' H1 HS => ?_)
      have E2 := mG E2'
      have F12 := F11.new E2 (fun k h => tg4L_1 k (.inl h))
      have hz2 := E2.size
      have hI101 := (HS.1 101 _ rfl).2
      have hI100 := (HS.1 100 _ rfl).2
      have hI99 := (HS.1 99 _ rfl).2
      have hI98 := (HS.1 98 _ rfl).2
      have hX101_100 := HS.2 101 _ 100 _ rfl rfl (show (101 : Nat) ≠ 100 from by decide)
      have hX101_99 := HS.2 101 _ 99 _ rfl rfl (show (101 : Nat) ≠ 99 from by decide)
      have hX101_98 := HS.2 101 _ 98 _ rfl rfl (show (101 : Nat) ≠ 98 from by decide)
      have hX100_99 := HS.2 100 _ 99 _ rfl rfl (show (100 : Nat) ≠ 99 from by decide)
      have hX100_98 := HS.2 100 _ 98 _ rfl rfl (show (100 : Nat) ≠ 98 from by decide)
      have hX99_98 := HS.2 99 _ 98 _ rfl rfl (show (99 : Nat) ≠ 98 from by decide)
      simp only at hI101
      simp only at hI100
      simp only at hI99
      simp only at hI98
      simp only at hX101_100
      simp only at hX101_99
      simp only at hX101_98
      simp only at hX100_99
      simp only at hX100_98
      simp only at hX99_98
      have g101 := H1 101 _ rfl
      obtain ⟨e, sN, cN, rfl, he, hTN, hIN⟩ := g101
      have tg2 : ∀ k, mtb sN (TT4_1 ++ [e]) k → w0.heap.size ≤ k := fun k hk => (hIN k hk).elim (tg4L_1 k) (fun h => by omega)
      have tn2_1 : ∀ k, mtb sN (TT4_1 ++ [e]) k → k ≠ b1 := fun k hk => (hIN k hk).elim (tn4L_1_1 k) (fun h => by have := (BL4_1).lt; omega)
      have tn2_2 : ∀ k, mtb sN (TT4_1 ++ [e]) k → k ≠ b2 := fun k hk => (hIN k hk).elim (tn4L_1_2 k) (fun h => by have := (BL4_2).lt; omega)
      have ts2_2 : ∀ k, mtb sN (TT4_1 ++ [e]) k → ob so4_2 k → False := fun k hk h2 => (hIN k hk).elim (fun h => ts4L_1_2 k h h2) (fun h => by have := (ow4L_2).lt h2; omega)
      have g100 := H1 100 _ rfl
      have g99 := H1 99 _ rfl
      have g98 := H1 98 _ rfl
      refine lx_value (want rfl) (rn_fieldAddr fa_24_0 (A4.at 10 rfl (A3.at 10 rfl rfl))) ?_
      refine lx_set (want rfl) sz_22 rfl (t_slice rfl) rfl rfl rfl (BL4_2.fr E2 (fun h => tn4L_1_2 _ (.inl h) rfl)) (Nat.le_of_ble_eq_true rfl) ?_
      intro w8 Es5 Bs5
      have F13 := F12.set Es5 (by omega)
      have hzs5 := Es5.size
      refine lx_nil ?_
      refine wk_region ?_
      refine lx_value (want rfl) (mv_int hs4_14) ?_
      refine lx_value (want rfl) (rn_add rfl rfl (by omega)) ?_
      refine lx_value (want rfl) (as_int rfl) ?_
      refine lx_nil ?_
      exact ⟨rfl, (((((((((((((((((((((((((((((((((((((((A4.up rfl _).up rfl _).up rfl _).up rfl _).up rfl _).up rfl _).up rfl _).up rfl _).up rfl _).up rfl _).up rfl _).up rfl _).up rfl _).up rfl _).up rfl _).up rfl _).up rfl _).up rfl _).up rfl _).up rfl _).up rfl _).up rfl _).up rfl _).up rfl _).up rfl _).up rfl _).up rfl _).up rfl _).up rfl _).up rfl _).up rfl _).up rfl _).up rfl _).up rfl _).up rfl _).none _).up rfl _).up rfl _).up rfl _), Fr.between F10 F13 (by omega), _, (by omega), j + 1, so4_2, co4_2, sN, cN, (TT4_1 ++ [e]), rfl, rfl, hs4_12, hs4_13, ((BL4_1.fr E2 (fun h => tn4L_1_1 _ (.inl h) rfl)).ne Es5 (by omega)), Bs5, ho4_2, ((ow4L_2.fr E2 (fun k h1 h => ts4L_1_2 k (.inl h) h1)).ne Es5 (fun h => ne4L_2_2 _ h rfl)), ge4L_2, ne4L_2_1, ne4L_2_2, (hTN.fr Es5 (fun k hk h => tn2_2 k hk h)), tg2, tn2_1, tn2_2, ts2_2, by omega, (bu_step hT2 hy he)⟩
     ·
      refine lx_nil ?_
      refine wk_cond_f rfl ?_
      refine wk_exit ?_
      have hOw := ow4L_2
      have hSl : ∀ k, (ob so4_2) k → k < w6.heap.size := fun k h => (ow4L_2).lt h
      refine wk_mixA 14 13 (ob so4_2) (fun kS => match kS with | 11 => .val (.agg #[.int .u8 (restV (sumI (L.take i)) 0 x.length (endV (C.getD i false))).1, .int .i64 (restV (sumI (L.take i)) 0 x.length (endV (C.getD i false))).2]) | 12 => .any (fun I v w => ∃ b, v = .slice (some ⟨b, 0, none⟩) 1 1 ∧ w6.heap.size ≤ b ∧ (I.1 ≤ b ∧ b < I.2) ∧ Blk w b (vlC (restV (sumI (L.take i)) 0 x.length (endV (C.getD i false)))) 36) | 13 => .any (fun I v w => ∃ s c, v = .slice s ((buN L C i).2.length + 1) c ∧ OwnS w 36 2 s ((buN L C i).2.length + 1) c (((buN L C i).2.flatMap vlC) ++ (vlC (restV (sumI (L.take i)) 0 x.length (endV (C.getD i false))))) ∧ ∀ k, ob s k → (ob so4_2 k ∨ w6.heap.size ≤ k)) | _ => .none) (by kernel_rfl) (by kernel_rfl) (by intro kS G hk; (try dsimp only at hk); (split at hk) <;> first | (cases hk; done) | (injection hk with hk; subst hk; exact ⟨by intro j hkj I v w w' hR hG; first | exact hG | (obtain ⟨b, h1, h2, hI, h3⟩ := hG; exact ⟨b, h1, h2, hI, h3.fr (mS hR) (fun hs => by have := hOw.lt hs; omega)⟩) | (obtain ⟨s, c, h1, h2, h3⟩ := hG; exact ⟨s, c, h1, h2.ext (mT hkj hR), h3⟩), fun ⟨_, _, _, _, hs⟩ => by (try dsimp only at hs); split at hs <;> cases hs⟩)) (by intro kS s y G hk; (try dsimp only at hk); split at hk <;> cases hk) ?_
      simp only [List.take_succ_cons, List.take_zero, List.take_nil, List.drop_succ_cons, List.drop_zero, List.drop_nil]
      refine mx_calm rfl (want rfl) (fun u28 eu28 fu28 => mv_slice ho4_2) ?_
      refine mx_calm rfl (want rfl) (fun u29 eu29 fu29 => mv_int hs4_13) ?_
      refine mx_calm rfl (want rfl) (fun u30 eu30 fu30 => mv_slice (A4.at 0 rfl (A3.at 0 rfl (A1.at 0 rfl rfl)))) ?_
      refine mx_calm rfl (want rfl) (fun u31 eu31 fu31 => mv_int hs4_12) ?_
      refine mx_calm rfl (want rfl) (fun u32 eu32 fu32 => rn_index i Tryz.underlying95 sz_77 rfl rfl rfl (by omega)) ?_
      refine mx_calm rfl (want rfl) (fun u33 eu33 fu33 => rn_load1 ag_77 rfl ((F11.new (mD (by decide) eu33) ge4L_2).cell (fun h => h) hcx)) ?_
      refine mx_calm rfl (want rfl) (fun u34 eu34 fu34 => rn_len Tryz.underlying77 rfl) ?_
      refine mx_calm rfl (want rfl) (fun u35 eu35 fu35 => mv_slice (A4.at 1 rfl (A3.at 1 rfl (A1.at 1 rfl rfl)))) ?_
      refine mx_calm rfl (want rfl) (fun u36 eu36 fu36 => mv_int hs4_12) ?_
      refine mx_calm rfl (want rfl) (fun u37 eu37 fu37 => rn_index i Tryz.underlying96 sz_4 rfl rfl rfl (by omega)) ?_
      refine mx_calm rfl (want rfl) (fun u38 eu38 fu38 => rn_load1 ag_4 rfl ((F11.new (mD (by decide) eu38) ge4L_2).cell (fun h => h) (hcc 0 _ rfl))) ?_
      refine mx_val rfl (want rfl) (fun u39 eu39 fu39 => do_call (ent_func cf_109 (argsC (t_int rfl) (argsC (t_int rfl) (argsC (t_int rfl) (argsC (t_bool rfl) args0))))) (rest_ct (sumI (L.take i)) 0 x.length cq (by omega) (by omega) u39) (fun _ _ E h => ⟨(mE (by decide) E), (by rw [← hbq] at h; exact h)⟩)) ?_
      refine mx_any rfl rfl (want rfl) (fun u40 eu40 fu40 => (do_newS2 (rn_bslice (xs := [.tmp 114]) Tryz.underlying30 sz_36 ze_36 rfl (argsC (t_agg rfl) args0) (CL.cons rfl rfl CL.nil) rfl (Nat.le_of_ble_eq_true rfl)) (show _ ≤ _ from ((mD (by decide) eu40)).size)).mono (fun v w' h => ⟨(mE (by decide) h.1), h.2⟩)) (fun I115 v115 => ?_)
      refine mx_any rfl rfl (want rfl) (fun u41 eu41 fu41 => by obtain ⟨bS, rfl, hbS, _, hBS⟩ := fu41 115 _ rfl (show (115 : Nat) ∈ _ from by decide); exact do_append 16 Tryz.underlying30 ti_36 (by decide) rfl (by decide) rfl rfl (ow4L_2.ext (mC eu41)) (Src.blk hBS rfl rfl) (by rw [buN_len2 L C hi]; omega) (fun sA cA wA AP => ⟨(mF AP.fr), ⟨sA, cA, rfl, AP.own, fun k hk => (AP.blk k hk).elim .inl (fun h => .inr (Nat.le_trans (mC eu41).size h))⟩⟩)) (fun I116 v116 => ?_)
      refine mx_nil (fun w7 E3' H2 HS => ?_)
      have E3 := mG E3'
      have hI116 := (HS.1 116 _ rfl).2
      have hI115 := (HS.1 115 _ rfl).2
      have hX116_115 := HS.2 116 _ 115 _ rfl rfl (show (116 : Nat) ≠ 115 from by decide)
      simp only at hI116
      simp only at hI115
      simp only at hX116_115
      have g116 := H2 116 _ rfl
      obtain ⟨sq2, cq2, rfl, hO2, hI2⟩ := g116
      have g115 := H2 115 _ rfl
      have AP2 : Apd w6 _ _ so4_2 _ _ sq2 cq2 w7 := ⟨hO2, E3, hI2⟩
      have EA2 := AP2.fr
      have ow2 := AP2.own
      have ge2 : ∀ k, ob sq2 k → w0.heap.size ≤ k := fun k hk => (AP2.blk k hk).elim (ge4L_2 k) (fun h => (Nat.le_trans F11.size h))
      have ne2_1 : ∀ k, ob sq2 k → k ≠ b1 := fun k hk => (AP2.blk k hk).elim (ne4L_2_1 k) (fun h => by have := (BL4_1).lt; omega)
      have ne2_2 : ∀ k, ob sq2 k → k ≠ b2 := fun k hk => (AP2.blk k hk).elim (ne4L_2_2 k) (fun h => by have := (BL4_2).lt; omega)
      have F14 := F11.new EA2 ge4L_2
      have hzA2 := EA2.size
      have BA2_1 := BL4_1.fr EA2 (fun h => ne4L_2_1 _ h rfl)
      have BA2_2 := BL4_2.fr EA2 (fun h => ne4L_2_2 _ h rfl)
      have sa2_1 : ∀ k, mtb st4_1 TT4_1 k → ob sq2 k → False := fun k hk h2 => (AP2.blk k h2).elim (fun h => ts4L_1_2 k hk h) (fun h => by have := (tw4L_1).lt hk; omega)
      refine lx_value (want rfl) (as_slice rfl) ?_
      refine lx_nil ?_
      refine wk_region ?_
      refine lx_value (want rfl) (mv_int hs4_12) ?_
      refine lx_value (want rfl) (rn_add rfl rfl (by omega)) ?_
      refine lx_value (want rfl) (as_int rfl) ?_
      refine lx_nil ?_
      exact ⟨rfl, (((((((((((((((((((((((((((((((((((A3.up rfl _).up rfl _).up rfl _).up rfl _).up rfl _).up rfl _).up rfl _).up rfl _).up rfl _).loop A4 rfl).up rfl _).up rfl _).up rfl _).up rfl _).up rfl _).up rfl _).up rfl _).up rfl _).up rfl _).up rfl _).up rfl _).up rfl _).up rfl _).up rfl _).up rfl _).up rfl _).up rfl _).up rfl _).up rfl _).up rfl _).up rfl _).up rfl _).up rfl _).up rfl _).up rfl _), Fr.between F9 F14 (by omega), _, (by omega), i + 1, sq2, cq2, st4_1, ct4_1, TT4_1, rfl, rfl, BA2_1, BA2_2, (by rw [buN_2 hx]; exact slot_app rfl), (by rw [buN_2 hx]; exact own_more ow2 rfl), ge2, ne2_1, ne2_2, (tw4L_1.fr EA2 (fun k hk h => ts4L_1_2 k hk h)), tg4L_1, tn4L_1_1, tn4L_1_2, sa2_1, by omega, (by rw [← buI_end hx hlt2]; exact hT2)⟩
    ·
     refine lx_nil ?_
     refine wk_cond_f rfl ?_
     refine wk_exit ?_
     refine wk_seq ?_
     refine wk_region ?_
     refine lx_value (want rfl) (rn_loadBlk ag_24 sz_24 (A3.at 10 rfl rfl) BL3_2 rfl rfl) ?_
     refine lx_value (want rfl) (mv_slice ho3_2) ?_
     refine lx_set (want rfl) sz_24 (A3.at 4 rfl (A1.at 4 rfl rfl)) (t_agg rfl) rfl rfl rfl BL3_1 (Nat.le_of_ble_eq_true rfl) ?_
     intro w6 Es6 Bs6
     have F15 := F10.set Es6 (by omega)
     have hzs6 := Es6.size
     refine lx_value (want rfl) (as_slice rfl) ?_
     refine lx_value (want rfl) (as_int rfl) ?_
     refine lx_nil ?_
     refine wk_ret ?_
     refine retR3 Tryz.results64 (.cell (A3.at 4 rfl (A1.at 4 rfl rfl)) (run_loadVar_blk ag_24 sz_24 Bs6 rfl rfl)) (.tmp (t_slice rfl)) (.tmp (t_int rfl)) F15 ?_
     exact outU_0 hle hAL h4L (tw3L_1.fr Es6 (fun k hk h => tn3L_1_1 k hk h)) (by rw [← buN_end hlt]; exact hT) rfl tg3L_1 (by rw [← buN_end hlt]; exact (ow3L_2.ne Es6 (fun h => ne3L_2_1 _ h rfl))) ge3L_2 (by rw [← buN_end hlt])

end Go.Proofs.YtnhgfmbmfjmonaaGreatDoor

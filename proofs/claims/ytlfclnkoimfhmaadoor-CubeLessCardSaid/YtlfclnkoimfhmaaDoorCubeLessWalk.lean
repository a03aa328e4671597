/- The walk of the law CubeLess. -/
import Derived.Test.YtlfclnkoimfhmaaDoorFacts
import Derived.Test.YtlfclnkoimfhmaaDoorPre
import Derived.Test.YtlfclnkoimfhmaaDoorPreB
import Derived.Test.YtlfclnkoimfhmaaDoorWalk1
import Derived.Test.YtlfclnkoimfhmaaDoorWalk15
import Derived.Test.YtlfclnkoimfhmaaDoorWalk16
import Derived.Test.YtlfclnkoimfhmaaDoorWalk17
import Derived.Test.YtlfclnkoimfhmaaDoorWalk18
set_option maxRecDepth 100000
set_option linter.unusedVariables false
set_option linter.unusedSimpArgs false
namespace Go.Proofs.YtlfclnkoimfhmaaDoor
open Go Go.RowKit Go.Mix Go.Eng
theorem sz_103 : ∀ w, (sizeOf 103).run Tryd.prog w = .ok 3 w := fun _ => by kernel_rfl
theorem sz_59 : ∀ w, (sizeOf 59).run Tryd.prog w = .ok 1 w := fun _ => by kernel_rfl
theorem sz_61 : ∀ w, (sizeOf 61).run Tryd.prog w = .ok 3 w := fun _ => by kernel_rfl
theorem ag_59 : ∀ w, (isAgg 59).run Tryd.prog w = .ok false w := fun _ => by kernel_rfl
theorem ag_61 : ∀ w, (isAgg 61).run Tryd.prog w = .ok true w := fun _ => by kernel_rfl
theorem bd_41_0_1_2 : ∀ (x1 : Int) (x2 : Int) (x3 : Int) (w : World), (Instr.build 41 #[(0, .int .i64 x1), (1, .int .i64 x2), (2, .int .i64 x3)]).run Tryd.prog w = .ok (.agg #[.int .i64 x1, .int .i64 x2, .int .i64 x3]) w := fun _ _ _ _ => by kernel_rfl
theorem cf_21 : ∀ args w, (callFunc 21 args).run Tryd.prog w = .ok (.enter 21 args) w := fun _ _ => by kernel_rfl
theorem cf_22 : ∀ args w, (callFunc 22 args).run Tryd.prog w = .ok (.enter 22 args) w := fun _ _ => by kernel_rfl
theorem cf_38 : ∀ args w, (callFunc 38 args).run Tryd.prog w = .ok (.enter 38 args) w := fun _ _ => by kernel_rfl
theorem cf_43 : ∀ args w, (callFunc 43 args).run Tryd.prog w = .ok (.enter 43 args) w := fun _ _ => by kernel_rfl
theorem cf_44 : ∀ args w, (callFunc 44 args).run Tryd.prog w = .ok (.enter 44 args) w := fun _ _ => by kernel_rfl
theorem cf_67 : ∀ args w, (callFunc 67 args).run Tryd.prog w = .ok (.enter 67 args) w := fun _ _ => by kernel_rfl
theorem fa_61_0 : ∀ b o w, (Instr.fieldAt 61 (.pointer (some ⟨b, o, none⟩)) 0).run Tryd.prog w = .ok (.pointer (some ⟨b, o + 0, none⟩)) w := fun b o w => by simp [Instr.fieldAt, run_underlying (show Tryd.prog.underlying 61 = some _ from Tryd.underlying61), Instr.sureAddr, fieldPlace, sz_5, addr_add]
theorem fa_61_1 : ∀ b o w, (Instr.fieldAt 61 (.pointer (some ⟨b, o, none⟩)) 1).run Tryd.prog w = .ok (.pointer (some ⟨b, o + 1, none⟩)) w := fun b o w => by simp [Instr.fieldAt, run_underlying (show Tryd.prog.underlying 61 = some _ from Tryd.underlying61), Instr.sureAddr, fieldPlace, sz_5, addr_add]
theorem fa_61_2 : ∀ b o w, (Instr.fieldAt 61 (.pointer (some ⟨b, o, none⟩)) 2).run Tryd.prog w = .ok (.pointer (some ⟨b, o + 2, none⟩)) w := fun b o w => by simp [Instr.fieldAt, run_underlying (show Tryd.prog.underlying 61 = some _ from Tryd.underlying61), Instr.sureAddr, fieldPlace, sz_59, addr_add]
theorem dims_ct (xd xr : Nat) (hxd : xd < 256) (hxr : xr < 256) (sx : Option Addr) (nx cx : Nat) (w0 : World) :
    CT Tryd.prog 43 [.agg #[.int .u8 xd, .int .u8 xr, .slice sx nx cx]] w0 no (fun v _ => v = .tuple #[.int .i64 (xd % 4 : Nat), .int .i64 (xr % 8 + 1 : Nat)]) := by
  have F0 := Fr.refl no w0
  refine ct_body Tryd.func43 rfl Tryd.ntmps43 (Nat.le_of_ble_eq_true rfl) ?_
  refine wk_seq ?_
  refine wk_region ?_
  refine lx_new (want rfl) (rn_box (t_agg rfl)) ?_
  intro b1 w1 hb1 Eb1 B1 hlb1
  have F1 := F0.ext Eb1
  have hzb1 := Eb1.size
  refine lx_value (want rfl) (as_int rfl) ?_
  refine lx_value (want rfl) (as_int rfl) ?_
  refine lx_nil ?_
  refine wk_seq ?_
  refine wk_mix 10 (fun _ => .none) (by kernel_rfl) (by kernel_rfl) (fun kS G hk => by cases hk) (fun kS s y G hk => by cases hk) ?_
  simp only [List.take_succ_cons, List.take_zero, List.take_nil, List.drop_succ_cons, List.drop_zero, List.drop_nil]
  refine mx_calm rfl (want rfl) (fun u1 eu1 fu1 => rn_fieldAddr fa_61_0 rfl) ?_
  refine mx_calm rfl (want rfl) (fun u2 eu2 fu2 => rn_load1Blk ag_5 rfl (B1.ext ((ext_drawn _).trans' eu2)) rfl) ?_
  refine mx_calm rfl (want rfl) (fun u3 eu3 fu3 => rn_conv Tryd.underlying5 Tryd.underlying3 rfl (wrap64_nat (by omega))) ?_
  refine mx_calm rfl (want rfl) (fun u4 eu4 fu4 => rn_remN rfl (n := 4) rfl (by omega)) ?_
  refine mx_calm rfl (want rfl) (fun u5 eu5 fu5 => rn_fieldAddr fa_61_1 rfl) ?_
  refine mx_calm rfl (want rfl) (fun u6 eu6 fu6 => rn_load1Blk ag_5 rfl (B1.ext ((ext_drawn _).trans' eu6)) rfl) ?_
  refine mx_calm rfl (want rfl) (fun u7 eu7 fu7 => rn_conv Tryd.underlying5 Tryd.underlying3 rfl (wrap64_nat (by omega))) ?_
  refine mx_calm rfl (want rfl) (fun u8 eu8 fu8 => rn_remN rfl (n := 8) rfl (by omega)) ?_
  refine mx_calm rfl (want rfl) (fun u9 eu9 fu9 => rn_addN rfl (n := 1) rfl (by omega)) ?_
  refine mx_calm rfl (want rfl) (fun u10 eu10 fu10 => as_int rfl) ?_
  refine mx_nil (fun w2 E1' H1 HS => ?_)
  have E1 := (ext_drawn _).trans' E1'
  have F2 := F1.ext E1
  have hz1 := E1.size
  refine lx_value (want rfl) (as_int rfl) ?_
  refine lx_nil ?_
  refine wk_ret ?_
  refine retR2 Tryd.results43 (.tmp (t_int rfl)) (.tmp (t_int rfl)) F2 ?_
  exact rfl

theorem packet_ct (xd xr : Nat) (hxd : xd < 256) (hxr : xr < 256) (X : List (Nat × Nat × Nat)) (hXb : ∀ x ∈ X, x.1 < 256 ∧ x.2.1 < 256 ∧ x.2.2 < 256) (sx : Option Addr) (cx : Nat) (Gx : Nat → Prop) (i : Nat) (x : Nat × Nat × Nat) (hx : X[i]? = some x) (w0 : World) (hX : Sl Gx w0 sx 3 X (Fl sC)) :
    CT Tryd.prog 67 [.agg #[.int .u8 xd, .int .u8 xr, .slice sx X.length cx], .int .i64 i] w0 no (fun v _ => v = .agg #[.int .i64 ((x.1 % 2 ^ (xd % 4)) : Nat), .int .i64 ((x.2.1 % 2 ^ (xd % 4)) : Nat), .int .i64 i]) := by
  obtain ⟨bx, ox, rfl, _, hcx⟩ := hX i x hx
  have hxb := hXb x (List.mem_of_getElem? hx)
  have hd : xd % 4 ≤ 3 := by omega
  have hp0 := Nat.two_pow_pos (xd % 4)
  have F0 := Fr.refl no w0
  refine ct_body Tryd.func67 rfl Tryd.ntmps67 (Nat.le_of_ble_eq_true rfl) ?_
  refine wk_seq ?_
  refine wk_region ?_
  refine lx_new (want rfl) (rn_box (t_agg rfl)) ?_
  intro b1 w1 hb1 Eb1 B1 hlb1
  have F1 := F0.ext Eb1
  have hzb1 := Eb1.size
  refine lx_new (want rfl) (rn_alloc ze_41) ?_
  intro b2 w2 hb2 Eb2 B2 hlb2
  have F2 := F1.ext Eb2
  have hzb2 := Eb2.size
  refine lx_nil ?_
  refine wk_seq ?_
  refine wk_region ?_
  refine lx_value (want rfl) (rn_loadBlk ag_61 sz_61 rfl (B1.ext Eb2) rfl rfl) ?_
  refine lx_call (want rfl) (ent_func cf_43 (argsC (t_agg rfl) args0)) (dims_ct xd xr hxd hxr _ _ _ w2) ?_
  rintro _ w3 E1 rfl
  have F3 := F2.ext E1
  have hz1 := E1.size
  refine lx_value (want rfl) (mv_tuple rfl) ?_
  refine lx_value (want rfl) (rn_extract rfl rfl) ?_
  refine lx_value (want rfl) (rn_extract rfl rfl) ?_
  refine lx_value (want rfl) (as_int rfl) ?_
  refine lx_value (want rfl) (as_int rfl) ?_
  refine lx_nil ?_
  refine wk_seq ?_
  refine wk_mix 21 (fun kS => match kS with | 8 => .val (.int .i64 ((2 ^ (xd % 4) : Nat) : Int)) | 18 => .val (.int .i64 ((2 ^ (xd % 4) : Nat) : Int)) | _ => .none) (by kernel_rfl) (by kernel_rfl) (by intro kS G hk; (try dsimp only at hk); (split at hk) <;> first | (cases hk; done) | (injection hk with hk; subst hk; exact ⟨by intro j hkj I v w w' hR hG; first | exact hG, fun ⟨_, _, _, _, hs⟩ => by (try dsimp only at hs); split at hs <;> cases hs⟩)) (by intro kS s y G hk; (try dsimp only at hk); split at hk <;> cases hk) ?_
  simp only [List.take_succ_cons, List.take_zero, List.take_nil, List.drop_succ_cons, List.drop_zero, List.drop_nil]
  refine mx_calm rfl (want rfl) (fun u1 eu1 fu1 => rn_fieldAddr fa_61_2 rfl) ?_
  refine mx_calm rfl (want rfl) (fun u2 eu2 fu2 => rn_load1Blk ag_59 rfl (((B1.ext Eb2).ext E1).ext ((ext_drawn _).trans' eu2)) rfl) ?_
  refine mx_calm rfl (want rfl) (fun u3 eu3 fu3 => mv_int rfl) ?_
  refine mx_calm rfl (want rfl) (fun u4 eu4 fu4 => rn_index i Tryd.underlying59 sz_103 rfl rfl rfl (List.getElem?_eq_some_iff.1 hx).1) ?_
  refine mx_calm rfl (want rfl) (fun u5 eu5 fu5 => rn_indexA (m := 0) 0 Tryd.underlying103 sz_5 rfl rfl rfl (by decide)) ?_
  refine mx_calm rfl (want rfl) (fun u6 eu6 fu6 => rn_load1 ag_5 rfl ((F3.ext ((ext_drawn _).trans' eu6)).cell (fun h => h) (hcx 0 _ rfl))) ?_
  refine mx_calm rfl (want rfl) (fun u7 eu7 fu7 => rn_conv Tryd.underlying5 Tryd.underlying3 rfl (wrap64_nat (by omega))) ?_
  refine mx_calm rfl (want rfl) (fun u8 eu8 fu8 => mv_int rfl) ?_
  refine mx_val rfl (want rfl) (fun u9 eu9 fu9 => do_call (ent_func cf_37 (argsC (t_int rfl) args0)) (switches_ct (xd % 4) hd u9) (fun _ _ E h => ⟨E, h⟩)) ?_
  refine mx_calm rfl (want rfl) (fun u10 eu10 fu10 => rn_remN rfl rfl hp0) ?_
  refine mx_calm rfl (want rfl) (fun u11 eu11 fu11 => rn_fieldAddr fa_61_2 rfl) ?_
  refine mx_calm rfl (want rfl) (fun u12 eu12 fu12 => rn_load1Blk ag_59 rfl (((B1.ext Eb2).ext E1).ext ((ext_drawn _).trans' eu12)) rfl) ?_
  refine mx_calm rfl (want rfl) (fun u13 eu13 fu13 => mv_int rfl) ?_
  refine mx_calm rfl (want rfl) (fun u14 eu14 fu14 => rn_index i Tryd.underlying59 sz_103 rfl rfl rfl (List.getElem?_eq_some_iff.1 hx).1) ?_
  refine mx_calm rfl (want rfl) (fun u15 eu15 fu15 => rn_indexA (m := 1) 1 Tryd.underlying103 sz_5 rfl rfl rfl (by decide)) ?_
  refine mx_calm rfl (want rfl) (fun u16 eu16 fu16 => rn_load1 ag_5 rfl ((F3.ext ((ext_drawn _).trans' eu16)).cell (fun h => h) (hcx 1 _ rfl))) ?_
  refine mx_calm rfl (want rfl) (fun u17 eu17 fu17 => rn_conv Tryd.underlying5 Tryd.underlying3 rfl (wrap64_nat (by omega))) ?_
  refine mx_calm rfl (want rfl) (fun u18 eu18 fu18 => mv_int rfl) ?_
  refine mx_val rfl (want rfl) (fun u19 eu19 fu19 => do_call (ent_func cf_37 (argsC (t_int rfl) args0)) (switches_ct (xd % 4) hd u19) (fun _ _ E h => ⟨E, h⟩)) ?_
  refine mx_calm rfl (want rfl) (fun u20 eu20 fu20 => rn_remN rfl rfl hp0) ?_
  refine mx_calm rfl (want rfl) (fun u21 eu21 fu21 => mv_int rfl) ?_
  refine mx_nil (fun w4 E2' H1 HS => ?_)
  have E2 := (ext_drawn _).trans' E2'
  have F4 := F3.ext E2
  have hz2 := E2.size
  refine lx_value (want rfl) (rn_build3 (t_int rfl) (t_int rfl) (t_int rfl) (fun w => bd_41_0_1_2 _ _ _ w)) ?_
  refine lx_set (want rfl) sz_41 rfl (t_agg rfl) rfl rfl rfl ((B2.ext E1).ext E2) (Nat.le_of_ble_eq_true rfl) ?_
  intro w5 Es1 Bs1
  have F5 := F4.set Es1 (by omega)
  have hzs1 := Es1.size
  refine lx_nil ?_
  refine wk_ret ?_
  refine retR1 Tryd.results67 (.cell rfl (run_loadVar_blk ag_41 sz_41 Bs1 rfl rfl)) F5 ?_
  exact rfl

set_option maxHeartbeats 4000000 in
set_option maxRecDepth 100000 in
theorem filled_ct (xd xr : Nat) (hxd : xd < 256) (hxr : xr < 256) (X : List (Nat × Nat × Nat)) (hXb : ∀ x ∈ X, x.1 < 256 ∧ x.2.1 < 256 ∧ x.2.2 < 256) (sx : Option Addr) (cx : Nat) (Gx : Nat → Prop) (w0 : World) (hX : Sl Gx w0 sx 3 X (Fl sC)) (hT : Tb w0 1) :
    CT Tryd.prog 38 [.agg #[.int .u8 xd, .int .u8 xr, .slice sx X.length cx]] w0 no (fun v w => FilledQ (xd % 4) ((xr % 8 + 1 : Nat) : Int) v w) := by
  have hTl := hT.lt
  have hd : xd % 4 ≤ 3 := by omega
  have hr : 1 ≤ ((xr % 8 + 1 : Nat) : Int) ∧ ((xr % 8 + 1 : Nat) : Int) ≤ 8 := by omega
  have hnw := new_in hd hr
  have hp0 := Nat.two_pow_pos (xd % 4)
  have F0 := Fr.refl no w0
  refine ct_body Tryd.func38 rfl Tryd.ntmps38 (Nat.le_of_ble_eq_true rfl) ?_
  refine wk_seq ?_
  refine wk_region ?_
  refine lx_new (want rfl) (rn_box (t_agg rfl)) ?_
  intro b21 w1 hb21 Eb21 B21 hlb21
  have F1 := F0.ext Eb21
  have hzb21 := Eb21.size
  refine lx_new (want rfl) (rn_alloc ze_24) ?_
  intro b22 w2 hb22 Eb22 B22 hlb22
  have F2 := F1.ext Eb22
  have hzb22 := Eb22.size
  refine lx_value (want rfl) (as_slice rfl) ?_
  refine lx_value (want rfl) (as_slice rfl) ?_
  refine lx_value (want rfl) (as_bool rfl) ?_
  refine lx_nil ?_
  refine wk_seq ?_
  refine wk_region ?_
  refine lx_value (want rfl) (rn_loadBlk ag_61 sz_61 rfl (B21.ext Eb22) rfl rfl) ?_
  refine lx_call (want rfl) (ent_func cf_43 (argsC (t_agg rfl) args0)) (dims_ct xd xr hxd hxr _ _ _ w2) ?_
  rintro _ w3 E1 rfl
  have F3 := F2.ext E1
  have hz1 := E1.size
  refine lx_value (want rfl) (mv_tuple rfl) ?_
  refine lx_value (want rfl) (rn_extract rfl rfl) ?_
  refine lx_value (want rfl) (rn_extract rfl rfl) ?_
  refine lx_value (want rfl) (as_int rfl) ?_
  refine lx_value (want rfl) (as_int rfl) ?_
  refine lx_nil ?_
  refine wk_seq ?_
  refine wk_region ?_
  refine lx_value (want rfl) (mv_int rfl) ?_
  refine lx_value (want rfl) (mv_int rfl) ?_
  have hb21lt := (((B21.ext Eb22).ext E1)).lt
  have hb22lt := ((B22.ext E1)).lt
  refine lx_call (want rfl) (ent_func cf_15 (argsC (t_int rfl) (argsC (t_int rfl) args0))) (xnew_ct ((xd % 4 : Nat) : Int) ((xr % 8 + 1 : Nat) : Int) w3 (((hT.ext Eb21).ext Eb22).ext E1)) ?_
  rintro _ w4 E2 ⟨_, rfl, hN⟩
  have F4 := F3.ext E2
  have hz2 := E2.size
  rw [hnw.2.1] at hN
  dsimp only at hN
  obtain ⟨sN, cN, rfl, hN⟩ := hN
  refine lx_value (want rfl) (mv_tuple rfl) ?_
  refine lx_value (want rfl) (rn_extract rfl rfl) ?_
  refine lx_value (want rfl) (rn_extract rfl rfl) ?_
  refine lx_new (want rfl) (rn_alloc ze_24) ?_
  intro b23 w5 hb23 Eb23 B23 hlb23
  have F5 := F4.ext Eb23
  have hzb23 := Eb23.size
  refine lx_set (want rfl) sz_24 rfl (t_agg rfl) rfl rfl rfl B23 (Nat.le_of_ble_eq_true rfl) ?_
  intro w6 Es1 Bs1
  have F6 := F5.set Es1 (by omega)
  have hzs1 := Es1.size
  refine lx_value (want rfl) (as_int rfl) ?_
  refine lx_nil ?_
  refine wk_seq ?_
  refine wk_region ?_
  refine lx_value (want rfl) (as_slice rfl) ?_
  refine lx_value (want rfl) (as_slice rfl) ?_
  refine lx_nil ?_
  refine wk_seq ?_
  refine wk_seq ?_
  refine wk_region ?_
  refine lx_value (want rfl) (as_int rfl) ?_
  refine lx_nil ?_
  refine wk_block ?_
  refine wk_loopA [3, 4, 5, 10, 11, 12, 13, 14, 15, 16, 17, 18, 19, 20, 32, 33, 34, 35, 36, 37, 38, 39, 40, 41, 42, 43, 44, 45, 46, 47, 48, 49, 50, 51, 52, 53, 54, 55, 56, 57, 58, 59, 60, 61, 62, 63, 64, 65, 66, 67, 68, 69, 70, 71, 72, 73, 74, 75, 76, 77, 78, 79, 80, 81, 82, 83, 84, 85, 86, 87, 88, 89, 90, 91, 92, 93, 94, 95, 96, 97, 98, 99, 100, 101, 102, 103, 104, 105, 106, 107, 108, 109, 110, 111, 112, 113, 114, 115, 116, 117, 118, 119] (fun j => no j ∨ w0.heap.size ≤ j) (fun nM ρ w => ∃ (i : Nat) (L : List (List Pk)) (a o : List Pk) (sL : Option Addr) (cL : Nat) (so1_10 : Option Addr) (co1_10 : Nat) (so1_11 : Option Addr) (co1_11 : Nat), nM = 60 - i ∧ ρ 12 = .int .i64 i ∧ Tb w 1 ∧ Blk w b21 (cellsOf B21) 61 ∧ Blk w b22 (cellsOf B22) 24 ∧ Blk w b23 [.int .i64 ((xd % 4) : Nat), .int .i64 ((xr % 8 + 1 : Nat) : Int), .slice sL L.length cL] 24 ∧ ρ 10 = .slice so1_10 (a.length) co1_10 ∧ OwnS w 41 3 so1_10 (a.length) co1_10 (a.flatMap pkC) ∧ (∀ k, ob so1_10 k → w0.heap.size ≤ k) ∧ (∀ k, ob so1_10 k → k ≠ 1) ∧ (∀ k, ob so1_10 k → k ≠ b21) ∧ (∀ k, ob so1_10 k → k ≠ b22) ∧ (∀ k, ob so1_10 k → k ≠ b23) ∧ ρ 11 = .slice so1_11 (o.length) co1_11 ∧ OwnS w 41 3 so1_11 (o.length) co1_11 (o.flatMap pkC) ∧ (∀ k, ob so1_11 k → w0.heap.size ≤ k) ∧ (∀ k, ob so1_11 k → k ≠ 1) ∧ (∀ k, ob so1_11 k → k ≠ b21) ∧ (∀ k, ob so1_11 k → k ≠ b22) ∧ (∀ k, ob so1_11 k → k ≠ b23) ∧ (∀ k, ob so1_10 k → ob so1_11 k → False) ∧ (BufS (fun j => j < w.heap.size ∧ j ≠ b21 ∧ j ≠ b22 ∧ j ≠ b23 ∧ ¬ ob so1_10 j ∧ ¬ ob so1_11 j) w sL L) ∧ (i ≤ 60) ∧ (Valid (xd % 4) ((xr % 8 + 1 : Nat) : Int) L) ∧ (Fill (xd % 4) ((xr % 8 + 1 : Nat) : Int) i L a o)) _ ⟨0, (List.replicate (2 ^ (xd % 4) * ((xd % 4) + 1)) []), [], [], sN, cN, none, 0, none, 0, rfl, rfl, ((((((hT.ext Eb21).ext Eb22).ext E1).ext E2).ext Eb23).ne Es1 (by omega)), (((((B21.ext Eb22).ext E1).ext E2).ext Eb23).ne Es1 (by omega)), ((((B22.ext E1).ext E2).ext Eb23).ne Es1 (by omega)), (by have h := Bs1; first | exact h | (rw [hcn] at h; exact h)), rfl, (OwnS.nil w6 41 3), (fun _ h => ob_none h), (fun _ h => ob_none h), (fun _ h => ob_none h), (fun _ h => ob_none h), (fun _ h => ob_none h), rfl, (OwnS.nil w6 41 3), (fun _ h => ob_none h), (fun _ h => ob_none h), (fun _ h => ob_none h), (fun _ h => ob_none h), (fun _ h => ob_none h), (fun _ _ h => ob_none h), BufS.on hN (Fr.trans (Fr.ext (Fr.refl (fun k => k = b23) w4) Eb23) Es1 (fun k _ h => h)) (fun k hk hlt h => by have := hk.1; (try dsimp only at h); first | exact h | omega) (fun k hk hlt => ⟨by omega, by have := hk.1; omega, by have := hk.1; omega, by have := hk.1; omega, fun h => ob_none h, fun h => ob_none h⟩), by omega, hnw.2.2, Fill.new⟩ ?_
  rintro n1 ρ1 w7 A1 EL1 ⟨i, L, a, o, sL, cL, so1_10, co1_10, so1_11, co1_11, rfl, hs1_12, BL1_800, BL1_21, BL1_22, BL1_23, ho1_10, ow1L_10, ge1L_10, ne1L_10_800, ne1L_10_21, ne1L_10_22, ne1L_10_23, ho1_11, ow1L_11, ge1L_11, ne1L_11_800, ne1L_11_21, ne1L_11_22, ne1L_11_23, sp1L_10_11, hB2, hi, hV2, hF2⟩
  have F7 := F6.wide EL1
  have hzL1 := EL1.size
  refine wk_seq ?_
  refine wk_seq ?_
  refine wk_region ?_
  refine lx_value (want rfl) (mv_int hs1_12) ?_
  refine lx_value (want rfl) (rn_fieldAddr fa_61_2 (A1.at 1 rfl rfl)) ?_
  refine lx_value (want rfl) (rn_load1Blk ag_59 rfl BL1_21 rfl) ?_
  refine lx_value (want rfl) (rn_len Tryd.underlying59 rfl) ?_
  refine lx_value (want rfl) (rn_lss rfl rfl) ?_
  refine lx_dec (fun hlt => ?_) (fun hlt => ?_)
  ·
    obtain ⟨x, hx⟩ := getx hlt
    obtain ⟨bx, ox, hsx, _, hcx⟩ := hX i x hx
    have hxb := hXb x (List.mem_of_getElem? hx)
    subst hsx
    refine lx_value (want rfl) (mv_bool rfl) ?_
    refine lx_value (want_if (j := 5) (d := 37) (x := true) (y := true) rfl rfl (by decide) rfl) (mv_int hs1_12) ?_
    refine lx_value (want_if (j := 5) (d := 37) (x := true) (y := true) rfl rfl (by decide) rfl) (rn_lss rfl rfl) ?_
    refine lx_dec (fun h60 => ?_) (fun h60 => ?_)
    ·
      refine lx_value (want rfl) (pick_t rfl rfl) ?_
      refine lx_value (want rfl) (mv_bool rfl) ?_
      refine lx_value (want_if (j := 9) (d := 41) (x := true) (y := true) rfl rfl (by decide) rfl) (mv_int (A1.at 9 rfl rfl)) ?_
      refine lx_value (want_if (j := 9) (d := 41) (x := true) (y := true) rfl rfl (by decide) rfl) (rn_eql rfl rfl) ?_
      refine lx_dec_t (hnw.1) ?_
      refine lx_value (want rfl) (pick_t rfl rfl) ?_
      refine lx_nil ?_
      refine wk_cond_t rfl ?_
      refine wk_skip ?_
      refine wk_seq ?_
      refine wk_block ?_
      refine wk_seq ?_
      refine wk_seq ?_
      refine wk_region ?_
      refine lx_value (want rfl) (as_int rfl) ?_
      refine lx_nil ?_
      refine wk_block ?_
      refine wk_loopA [3, 4, 5, 11, 13, 14, 15, 16, 17, 18, 47, 48, 49, 50, 51, 52, 53, 54, 55, 56, 57, 58, 59, 60, 61, 62, 63, 64, 65, 66, 67, 68, 69, 70, 71, 72, 73, 74, 75, 76, 77, 78, 79, 80, 81, 82, 83, 84, 85, 86, 87, 88, 89, 90, 91, 92, 93, 94, 95, 96, 97, 98] (fun j => no j ∨ w0.heap.size ≤ j) (fun nM ρ w => ∃ (k : Nat) (L2 : List (List Pk)) (o2 : List Pk) (sL2 : Option Addr) (cL2 : Nat) (so2_10 : Option Addr) (co2_10 : Nat) (so2_11 : Option Addr) (co2_11 : Nat), nM = 4 - k ∧ ρ 13 = .int .i64 k ∧ Tb w 1 ∧ Blk w b21 (cellsOf BL1_21) 61 ∧ Blk w b22 (cellsOf BL1_22) 24 ∧ Blk w b23 [.int .i64 ((xd % 4) : Nat), .int .i64 ((xr % 8 + 1 : Nat) : Int), .slice sL2 L2.length cL2] 24 ∧ ρ 10 = .slice so2_10 (a.length) co2_10 ∧ OwnS w 41 3 so2_10 (a.length) co2_10 (a.flatMap pkC) ∧ (∀ k, ob so2_10 k → w0.heap.size ≤ k) ∧ (∀ k, ob so2_10 k → k ≠ 1) ∧ (∀ k, ob so2_10 k → k ≠ b21) ∧ (∀ k, ob so2_10 k → k ≠ b22) ∧ (∀ k, ob so2_10 k → k ≠ b23) ∧ ρ 11 = .slice so2_11 (o2.length) co2_11 ∧ OwnS w 41 3 so2_11 (o2.length) co2_11 (o2.flatMap pkC) ∧ (∀ k, ob so2_11 k → w0.heap.size ≤ k) ∧ (∀ k, ob so2_11 k → k ≠ 1) ∧ (∀ k, ob so2_11 k → k ≠ b21) ∧ (∀ k, ob so2_11 k → k ≠ b22) ∧ (∀ k, ob so2_11 k → k ≠ b23) ∧ (∀ k, ob so2_10 k → ob so2_11 k → False) ∧ (BufS (fun j => j < w.heap.size ∧ j ≠ b21 ∧ j ≠ b22 ∧ j ≠ b23 ∧ ¬ ob so2_10 j ∧ ¬ ob so2_11 j) w sL2 L2) ∧ (k ≤ 4) ∧ (Valid (xd % 4) ((xr % 8 + 1 : Nat) : Int) L2) ∧ (Fill (xd % 4) ((xr % 8 + 1 : Nat) : Int) i L2 a o2)) _ ⟨0, L, o, sL, cL, so1_10, co1_10, so1_11, co1_11, rfl, rfl, BL1_800, BL1_21, BL1_22, BL1_23, ho1_10, ow1L_10, ge1L_10, ne1L_10_800, ne1L_10_21, ne1L_10_22, ne1L_10_23, ho1_11, ow1L_11, ge1L_11, ne1L_11_800, ne1L_11_21, ne1L_11_22, ne1L_11_23, sp1L_10_11, BufS.on hB2 (Fr.refl no w7) (fun _ _ _ h => h) (fun k hk hlt => ⟨by omega, hk.2⟩), by omega, hV2, hF2⟩ ?_
      rintro n2 ρ2 w8 A2 EL2 ⟨k, L2, o2, sL2, cL2, so2_10, co2_10, so2_11, co2_11, rfl, hs2_13, BL2_800, BL2_21, BL2_22, BL2_23, ho2_10, ow2L_10, ge2L_10, ne2L_10_800, ne2L_10_21, ne2L_10_22, ne2L_10_23, ho2_11, ow2L_11, ge2L_11, ne2L_11_800, ne2L_11_21, ne2L_11_22, ne2L_11_23, sp2L_10_11, hB3, hk, hV3, hF3⟩
      have F8 := F7.wide EL2
      have hzL2 := EL2.size
      refine wk_seq ?_
      refine wk_seq ?_
      refine wk_region ?_
      refine lx_value (want rfl) (mv_int hs2_13) ?_
      refine lx_value (want rfl) (rn_fieldAddr fa_61_2 (A2.at 1 rfl (A1.at 1 rfl rfl))) ?_
      refine lx_value (want rfl) (rn_load1Blk ag_59 rfl BL2_21 rfl) ?_
      refine lx_value (want rfl) (mv_int (A2.at 12 rfl hs1_12)) ?_
      refine lx_value (want rfl) (rn_index i Tryd.underlying59 sz_103 rfl rfl rfl (List.getElem?_eq_some_iff.1 hx).1) ?_
      refine lx_value (want rfl) (rn_indexA (m := 2) 2 Tryd.underlying103 sz_5 rfl rfl rfl (by decide)) ?_
      refine lx_value (want rfl) (rn_load1 ag_5 rfl (F8.cell (fun h => h) (hcx 2 _ rfl))) ?_
      refine lx_value (want rfl) (rn_conv Tryd.underlying5 Tryd.underlying3 rfl (wrap64_nat (by omega))) ?_
      refine lx_value (want rfl) (rn_remN rfl (n := 4) rfl (by omega)) ?_
      refine lx_value (want rfl) (rn_lss rfl rfl) ?_
      refine lx_dec (fun hkz => ?_) (fun hkz => ?_)
      ·
        refine lx_nil ?_
        refine wk_cond_t rfl ?_
        refine wk_skip ?_
        refine wk_seq ?_
        refine wk_block ?_
        refine wk_seq ?_
        refine wk_region ?_
        refine lx_value (want rfl) (rn_loadBlk ag_24 sz_24 (A2.at 8 rfl (A1.at 8 rfl rfl)) BL2_23 rfl rfl) ?_
        refine lx_call (want rfl) (ent_func cf_23 (argsC (t_agg rfl) args0)) (copyR (copy_ct ((xd % 4 : Nat) : Int) ((xr % 8 + 1 : Nat) : Int) L2 _ _ _ hV3.bd w8 (hB3.fr (buf_stab _) (Fr.refl no w8) (fun _ _ h => h)))) ?_
        rintro _ w9 E3 ⟨sC, cC, rfl, hC⟩
        have F9 := F8.ext E3
        have hz3 := E3.size
        refine lx_call (want rfl) (ent_func cf_30 (argsC (t_agg rfl) args0)) (movesV hV3 (xmoves_ct ((xd % 4 : Nat) : Int) ((xr % 8 + 1 : Nat) : Int) L2 sC cC _ hV3.bd w9 (hC.fr (buf_stab _) (Fr.refl no w9) (fun k hk h => by first | exact h | (have := hk.1; have := hk.2; (try dsimp only at h); first | omega | (rcases h with h | h <;> first | omega | (have := ob_some h; omega))))) (BL2_800.ext E3))) ?_
        rintro _ w10 E4 ⟨sM, cM, rfl, hM⟩
        have F10 := F9.ext E4
        have hz4 := E4.size
        refine lx_value (want rfl) (mv_tuple rfl) ?_
        refine lx_value (want rfl) (rn_extract rfl rfl) ?_
        refine lx_value (want rfl) (rn_extract rfl rfl) ?_
        refine lx_value (want rfl) (as_slice rfl) ?_
        refine lx_value (want rfl) (as_int rfl) ?_
        refine lx_nil ?_
        refine wk_seq ?_
        refine wk_seq ?_
        refine wk_region ?_
        refine lx_value (want rfl) (mv_int rfl) ?_
        refine lx_value (want rfl) (rn_neq rfl rfl) ?_
        refine lx_dec_f ((fun h => h rfl)) ?_
        refine lx_nil ?_
        refine wk_cond_f rfl ?_
        refine wk_skip ?_
        refine wk_seq ?_
        refine wk_seq ?_
        refine wk_region ?_
        refine lx_value (want rfl) (mv_slice rfl) ?_
        refine lx_value (want rfl) (rn_len Tryd.underlying46 rfl) ?_
        refine lx_value (want rfl) (rn_eql rfl rfl) ?_
        refine lx_dec (fun hml => ?_) (fun hml => ?_)
        ·
          refine lx_nil ?_
          refine wk_cond_t rfl ?_
          refine wk_exit ?_
          refine wk_seq ?_
          have hpi := put_in (z := (i : Int)) hV3 (Nat.mod_lt x.1 hp0) (Nat.mod_lt x.2.1 hp0)
          have hbd2 := fill_bd hd hr hF3
          have hlt10 : ∀ k, ob so2_10 k → k < w10.heap.size := fun k hk => (((ow2L_10.ext E3).ext E4)).lt hk
          have hlt11 : ∀ k, ob so2_11 k → k < w10.heap.size := fun k hk => (((ow2L_11.ext E3).ext E4)).lt hk
          have hb21lt := (((BL2_21.ext E3).ext E4)).lt
          have hb22lt := (((BL2_22.ext E3).ext E4)).lt
          have hb23lt := (((BL2_23.ext E3).ext E4)).lt
          refine wk_mix 11 (fun kS => match kS with | 1 => .any (fun I v w => w10.heap.size ≤ I.1 ∧ CubeI I ((xd % 4 : Nat) : Int) ((xr % 8 + 1 : Nat) : Int) L2 v w) | 4 => .val (.agg #[.int .i64 ((x.1 % 2 ^ (xd % 4)) : Nat), .int .i64 ((x.2.1 % 2 ^ (xd % 4)) : Nat), .int .i64 i]) | 5 => .any (fun I v w => w10.heap.size ≤ I.1 ∧ PutI I (putC (((xd % 4) : Nat) : Int) ((xr % 8 + 1 : Nat) : Int) L2 ((((x.1 % 2 ^ (xd % 4)) : Nat) : Int), (((x.2.1 % 2 ^ (xd % 4)) : Nat) : Int), ((i : Nat) : Int))).1 (putC (((xd % 4) : Nat) : Int) ((xr % 8 + 1 : Nat) : Int) L2 ((((x.1 % 2 ^ (xd % 4)) : Nat) : Int), (((x.2.1 % 2 ^ (xd % 4)) : Nat) : Int), ((i : Nat) : Int))).2.1 (putC (((xd % 4) : Nat) : Int) ((xr % 8 + 1 : Nat) : Int) L2 ((((x.1 % 2 ^ (xd % 4)) : Nat) : Int), (((x.2.1 % 2 ^ (xd % 4)) : Nat) : Int), ((i : Nat) : Int))).2.2 (putE (((xd % 4) : Nat) : Int) ((xr % 8 + 1 : Nat) : Int) L2 ((((x.1 % 2 ^ (xd % 4)) : Nat) : Int), (((x.2.1 % 2 ^ (xd % 4)) : Nat) : Int), ((i : Nat) : Int))) v w) | 9 => .any (fun I v w => v = .pointer (some ⟨I.1, 0, none⟩) ∧ w10.heap.size ≤ I.1 ∧ I.1 < I.2 ∧ Blk w I.1 [.int .i64 0, .int .i64 0, .slice none 0 0] 24) | 10 => .sto 19 106 (fun J u w => J.1 < J.2 ∧ Blk w J.1 u.cells.toList 24) | _ => .none) (by kernel_rfl) (by kernel_rfl) (by intro kS G hk; (try dsimp only at hk); (split at hk) <;> first | (cases hk; done) | (injection hk with hk; subst hk; exact ⟨by intro j hkj I v w w' hR hG; first | exact hG | (exact ⟨hG.1, hG.2.fr hR (fun _ _ _ h => h)⟩) | (exact ⟨hG.1, hG.2.fr hR (fun _ _ _ h => h)⟩) | (obtain ⟨h1, h2, hI, h3⟩ := hG; exact ⟨h1, h2, hI, h3.ext hR⟩), fun _ I v w w' hR hG => by first | exact hG | (exact ⟨hG.1, hG.2.fr hR (fun k h1 h2 h => h.2 ⟨h1, h2⟩)⟩) | (exact ⟨hG.1, hG.2.fr hR (fun k h1 h2 h => h.2 ⟨h1, h2⟩)⟩) | (obtain ⟨h1, h2, hI, h3⟩ := hG; exact ⟨h1, h2, hI, h3.fr hR (fun h => h.2 ⟨Nat.le_refl _, hI⟩)⟩)⟩)) (by intro kS s y G hk; (try dsimp only at hk); (split at hk) <;> first | (cases hk; done) | (injection hk with hk1 hk2 hk3; subst hk1; subst hk2; subst hk3; exact ⟨by kernel_rfl, by intro j hkj I v w w' hR hG; exact ⟨hG.1, hG.2.ext hR⟩, fun I v w w' hR hG => ⟨hG.1, hG.2.fr hR (fun h => h.2 ⟨Nat.le_refl _, hG.1⟩)⟩⟩)) ?_
          simp only [List.take_succ_cons, List.take_zero, List.take_nil, List.drop_succ_cons, List.drop_zero, List.drop_nil]
          refine mx_calm rfl (want rfl) (fun u1 eu1 fu1 => rn_loadBlk ag_24 sz_24 (A2.at 8 rfl (A1.at 8 rfl rfl)) (((BL2_23.ext E3).ext E4).ext ((ext_drawn _).trans' eu1)) rfl rfl) ?_
          refine mx_any rfl rfl (want rfl) (fun u2 eu2 fu2 => do_call (ent_func cf_23 (argsC (t_agg rfl) args0)) (copyR (copy_ct ((xd % 4 : Nat) : Int) ((xr % 8 + 1 : Nat) : Int) L2 _ _ _ hV3.bd u2 (hB3.fr (buf_stab _) (Fr.ext (Fr.ext (Fr.ext (Fr.refl no w8) E3) E4) ((ext_drawn _).trans' eu2)) (fun _ _ h => h)))) (fun v w' E h => ⟨E, ⟨((ext_drawn _).trans' eu2).size, h.in⟩⟩)) (fun I101 v101 => ?_)
          refine mx_calm rfl (want rfl) (fun u3 eu3 fu3 => rn_loadBlk ag_61 sz_61 (A2.at 1 rfl (A1.at 1 rfl rfl)) (((BL2_21.ext E3).ext E4).ext ((ext_drawn _).trans' eu3)) rfl rfl) ?_
          refine mx_calm rfl (want rfl) (fun u4 eu4 fu4 => mv_int (A2.at 12 rfl hs1_12)) ?_
          refine mx_val rfl (want rfl) (fun u5 eu5 fu5 => do_call (ent_func cf_67 (argsC (t_agg rfl) (argsC (t_int rfl) args0))) (packet_ct xd xr hxd hxr X hXb _ _ _ i x hx u5 (hX.fr (sn_stab _) (F10.ext ((ext_drawn _).trans' eu5)) (fun _ _ h => h))) (fun _ _ E h => ⟨E, h⟩)) ?_
          refine mx_any rfl rfl (want rfl) (fun u6 eu6 fu6 => by obtain ⟨_, sC2, cC2, rfl, hCB⟩ := fu6 101 _ rfl (show (101 : Nat) ∈ _ from by decide); exact do_call (ent_func cf_28 (argsC (t_agg rfl) (argsC (t_agg rfl) args0))) (xput_ct ((xd % 4 : Nat) : Int) ((xr % 8 + 1 : Nat) : Int) L2 sC2 cC2 _ hV3.bd (((x.1 % 2 ^ (xd % 4)) : Nat) : Int) (((x.2.1 % 2 ^ (xd % 4)) : Nat) : Int) ((i : Nat) : Int) u6 hCB (((BL2_800.ext E3).ext E4).ext ((ext_drawn _).trans' eu6))) (fun v w' E h => ⟨E, ⟨((ext_drawn _).trans' eu6).size, h.in⟩⟩)) (fun I105 v105 => ?_)
          refine mx_calm (v := .tuple #[.agg #[.int .i64 (putC (((xd % 4) : Nat) : Int) ((xr % 8 + 1 : Nat) : Int) L2 ((((x.1 % 2 ^ (xd % 4)) : Nat) : Int), (((x.2.1 % 2 ^ (xd % 4)) : Nat) : Int), ((i : Nat) : Int))).1, .int .i64 (putC (((xd % 4) : Nat) : Int) ((xr % 8 + 1 : Nat) : Int) L2 ((((x.1 % 2 ^ (xd % 4)) : Nat) : Int), (((x.2.1 % 2 ^ (xd % 4)) : Nat) : Int), ((i : Nat) : Int))).2.1, .slice (sad (aget (tget v105 0) 2)) (putC (((xd % 4) : Nat) : Int) ((xr % 8 + 1 : Nat) : Int) L2 ((((x.1 % 2 ^ (xd % 4)) : Nat) : Int), (((x.2.1 % 2 ^ (xd % 4)) : Nat) : Int), ((i : Nat) : Int))).2.2.length (scp (aget (tget v105 0) 2))], .int .i64 (putE (((xd % 4) : Nat) : Int) ((xr % 8 + 1 : Nat) : Int) L2 ((((x.1 % 2 ^ (xd % 4)) : Nat) : Int), (((x.2.1 % 2 ^ (xd % 4)) : Nat) : Int), ((i : Nat) : Int)))]) rfl (want rfl) (fun u7 eu7 fu7 => by obtain ⟨_, sP, cP, rfl, _⟩ := fu7 105 _ rfl (show (105 : Nat) ∈ _ from by decide); exact rn_move rfl) ?_
          refine mx_calm rfl (want rfl) (fun u8 eu8 fu8 => rn_extract rfl rfl) ?_
          refine mx_calm rfl (want rfl) (fun u9 eu9 fu9 => rn_extract rfl rfl) ?_
          refine mx_any rfl rfl (want rfl) (fun u10 eu10 fu10 => (do_new3 (rn_alloc ze_24) (show _ ≤ _ from (((ext_drawn _).trans' eu10)).size)).mono (fun v w' h => ⟨h.1, h.2⟩)) (fun I19 v19 => ?_)
          refine mx_sto rfl rfl rfl rfl (want rfl) (fun u11 eu11 fu11 _ => by obtain ⟨rfl, hl19, hi19, hB19⟩ := fu11 19 _ rfl (show (19 : Nat) ∈ _ from by decide); exact (do_sto sz_24 rfl rfl rfl rfl rfl hB19 rfl ⟨Nat.le_refl _, hi19⟩).mono (fun v w' h => ⟨h.1, h.2.1, hi19, h.2.2⟩)) ?_
          refine mx_nil (fun w11 E5' H1 HS => ?_)
          have E5 := (ext_drawn _).trans' E5'
          have F11 := F10.ext E5
          have hz5 := E5.size
          have hI19 := (HS.1 19 _ rfl).2
          have hI105 := (HS.1 105 _ rfl).2
          have hI101 := (HS.1 101 _ rfl).2
          have hX19_105 := HS.2 19 _ 105 _ rfl rfl (show (19 : Nat) ≠ 105 from by decide)
          have hX19_101 := HS.2 19 _ 101 _ rfl rfl (show (19 : Nat) ≠ 101 from by decide)
          have hX105_101 := HS.2 105 _ 101 _ rfl rfl (show (105 : Nat) ≠ 101 from by decide)
          simp only at hI19
          simp only at hI105
          simp only at hI101
          simp only at hX19_105
          simp only at hX19_101
          simp only at hX105_101
          have g19 := H1 19 _ rfl
          obtain ⟨⟨_, hv19, hb19, _, _⟩, hi19, hB19⟩ := g19; subst hv19; have hlb19 := hB19.lt
          have g105 := H1 105 _ rfl
          obtain ⟨hI105a, sP, cP, rfl, hPB⟩ := g105
          have g101 := H1 101 _ rfl
          obtain ⟨hI101a, sC101, cC101, rfl, hCB101⟩ := g101
          have nb1 : ∀ k, ob so2_10 k → k ≠ I19.1 := fun k hk => by have := (ow2L_10).lt hk; omega
          have nb2 : ∀ k, ob so2_11 k → k ≠ I19.1 := fun k hk => by have := (ow2L_11).lt hk; omega
          refine lx_value (want rfl) (as_int rfl) ?_
          refine lx_nil ?_
          refine wk_seq ?_
          refine wk_seq ?_
          refine wk_region ?_
          refine lx_value (want rfl) (mv_int rfl) ?_
          refine lx_value (want rfl) (rn_eql rfl rfl) ?_
          refine lx_dec (fun hfull => ?_) (fun hfull => ?_)
          ·
            refine lx_nil ?_
            refine wk_cond_t rfl ?_
            refine wk_exit ?_
            refine wk_region ?_
            refine lx_value (want rfl) (mv_int (A2.at 12 rfl hs1_12)) ?_
            refine lx_value (want rfl) (rn_add rfl rfl (by omega)) ?_
            refine lx_value (want rfl) (as_int rfl) ?_
            refine lx_nil ?_
            exact ⟨rfl, (((((((((((((((((((((((((((((((((((((((((((((((((((((((A1.up rfl _).up rfl _).up rfl _).up rfl _).up rfl _).up rfl _).up rfl _).up rfl _).up rfl _).up rfl _).up rfl _).up rfl _).up rfl _).up rfl _).loop A2 rfl).up rfl _).up rfl _).up rfl _).up rfl _).up rfl _).up rfl _).up rfl _).up rfl _).up rfl _).up rfl _).up rfl _).up rfl _).up rfl _).up rfl _).up rfl _).up rfl _).up rfl _).up rfl _).up rfl _).up rfl _).up rfl _).up rfl _).up rfl _).up rfl _).up rfl _).up rfl _).up rfl _).up rfl _).up rfl _).up rfl _).up rfl _).up rfl _).up rfl _).none _).up rfl _).up rfl _).up rfl _).up rfl _).up rfl _).up rfl _), Fr.between F6 F11 (by omega), _, (by omega), i + 1, L2, a, o2, sL2, cL2, so2_10, co2_10, so2_11, co2_11, rfl, rfl, (((BL2_800.ext E3).ext E4).ext E5), (((BL2_21.ext E3).ext E4).ext E5), (((BL2_22.ext E3).ext E4).ext E5), (((BL2_23.ext E3).ext E4).ext E5), ho2_10, (((ow2L_10.ext E3).ext E4).ext E5), ge2L_10, ne2L_10_800, ne2L_10_21, ne2L_10_22, ne2L_10_23, ho2_11, (((ow2L_11.ext E3).ext E4).ext E5), ge2L_11, ne2L_11_800, ne2L_11_21, ne2L_11_22, ne2L_11_23, sp2L_10_11, BufS.on hB3 (Fr.ext (Fr.ext (Fr.ext (Fr.refl no w8) E3) E4) E5) (fun _ _ _ h => h) (fun k hk hlt => ⟨by omega, hk.2⟩), by omega, hV3, Fill.skip hF3⟩
          ·
            obtain ⟨he0, hcn, hVn⟩ := hpi.resolve_left hfull
            rw [hcn] at hPB
            dsimp only at hPB
            refine lx_nil ?_
            refine wk_cond_f rfl ?_
            refine wk_skip ?_
            refine wk_seq ?_
            refine wk_seq ?_
            refine wk_region ?_
            refine lx_value (want rfl) (mv_int rfl) ?_
            refine lx_value (want rfl) (rn_neq rfl rfl) ?_
            refine lx_dec_f ((fun h => h he0)) ?_
            refine lx_nil ?_
            refine wk_cond_f rfl ?_
            refine wk_skip ?_
            have hOw := (((ow2L_10.ext E3).ext E4).ext E5)
            have hSl : ∀ k, (ob so2_10) k → k < w11.heap.size := fun k h => ((((ow2L_10.ext E3).ext E4).ext E5)).lt h
            refine wk_mixA 7 6 (ob so2_10) (fun kS => match kS with | 4 => .val (.agg #[.int .i64 ((x.1 % 2 ^ (xd % 4)) : Nat), .int .i64 ((x.2.1 % 2 ^ (xd % 4)) : Nat), .int .i64 i]) | 5 => .any (fun I v w => ∃ b, v = .slice (some ⟨b, 0, none⟩) 1 1 ∧ w11.heap.size ≤ b ∧ (I.1 ≤ b ∧ b < I.2) ∧ Blk w b [.int .i64 ((x.1 % 2 ^ (xd % 4)) : Nat), .int .i64 ((x.2.1 % 2 ^ (xd % 4)) : Nat), .int .i64 (i : Nat)] 41) | 6 => .any (fun I v w => ∃ s c, v = .slice s (a.length + 1) c ∧ OwnS w 41 3 s (a.length + 1) c ((a.flatMap pkC) ++ [.int .i64 ((x.1 % 2 ^ (xd % 4)) : Nat), .int .i64 ((x.2.1 % 2 ^ (xd % 4)) : Nat), .int .i64 (i : Nat)]) ∧ ∀ k, ob s k → (ob so2_10 k ∨ w11.heap.size ≤ k)) | _ => .none) (by kernel_rfl) (by kernel_rfl) (by intro kS G hk; (try dsimp only at hk); (split at hk) <;> first | (cases hk; done) | (injection hk with hk; subst hk; exact ⟨by intro j hkj I v w w' hR hG; first | exact hG | (obtain ⟨b, h1, h2, hI, h3⟩ := hG; exact ⟨b, h1, h2, hI, h3.fr (mS hR) (fun hs => by have := hOw.lt hs; omega)⟩) | (obtain ⟨s, c, h1, h2, h3⟩ := hG; exact ⟨s, c, h1, h2.ext (mT hkj hR), h3⟩), fun ⟨_, _, _, _, hs⟩ => by (try dsimp only at hs); split at hs <;> cases hs⟩)) (by intro kS s y G hk; (try dsimp only at hk); split at hk <;> cases hk) ?_
            simp only [List.take_succ_cons, List.take_zero, List.take_nil, List.drop_succ_cons, List.drop_zero, List.drop_nil]
            refine mx_calm rfl (want rfl) (fun u12 eu12 fu12 => rn_loadBlk ag_24 sz_24 rfl (hB19.fr (mD (by decide) eu12) (fun h => nb1 _ h rfl)) rfl rfl) ?_
            refine mx_calm rfl (want rfl) (fun u13 eu13 fu13 => mv_slice ho2_10) ?_
            refine mx_calm rfl (want rfl) (fun u14 eu14 fu14 => rn_loadBlk ag_61 sz_61 (A2.at 1 rfl (A1.at 1 rfl rfl)) ((((BL2_21.ext E3).ext E4).ext E5).fr (mD (by decide) eu14) (fun h => ne2L_10_21 _ h rfl)) rfl rfl) ?_
            refine mx_calm rfl (want rfl) (fun u15 eu15 fu15 => mv_int (A2.at 12 rfl hs1_12)) ?_
            refine mx_val rfl (want rfl) (fun u16 eu16 fu16 => do_call (ent_func cf_67 (argsC (t_agg rfl) (argsC (t_int rfl) args0))) (packet_ct xd xr hxd hxr X hXb _ _ _ i x hx u16 (hX.fr (sn_stab _) (F11.new (mD (by decide) eu16) ge2L_10) (fun _ _ h => h))) (fun _ _ E h => ⟨(mE (by decide) E), h⟩)) ?_
            refine mx_any rfl rfl (want rfl) (fun u17 eu17 fu17 => (do_newS2 (rn_bslice (xs := [.tmp 117]) Tryd.underlying49 sz_41 ze_41 rfl (argsC (t_agg rfl) args0) (CL.cons rfl rfl CL.nil) rfl (Nat.le_of_ble_eq_true rfl)) (show _ ≤ _ from ((mD (by decide) eu17)).size)).mono (fun v w' h => ⟨(mE (by decide) h.1), h.2⟩)) (fun I118 v118 => ?_)
            refine mx_any rfl rfl (want rfl) (fun u18 eu18 fu18 => by obtain ⟨bS, rfl, hbS, _, hBS⟩ := fu18 118 _ rfl (show (118 : Nat) ∈ _ from by decide); exact do_append 24 Tryd.underlying49 ti_41 (by decide) rfl (by decide) rfl rfl ((((ow2L_10.ext E3).ext E4).ext E5).ext (mC eu18)) (Src.blk hBS rfl rfl) (by omega) (fun sA cA wA AP => ⟨(mF AP.fr), ⟨sA, cA, rfl, AP.own, fun k hk => (AP.blk k hk).elim .inl (fun h => .inr (Nat.le_trans (mC eu18).size h))⟩⟩)) (fun I119 v119 => ?_)
            refine mx_nil (fun w12 E6' H2 HS => ?_)
            have E6 := mG E6'
            have hI119 := (HS.1 119 _ rfl).2
            have hI118 := (HS.1 118 _ rfl).2
            have hX119_118 := HS.2 119 _ 118 _ rfl rfl (show (119 : Nat) ≠ 118 from by decide)
            simp only at hI119
            simp only at hI118
            simp only at hX119_118
            have g119 := H2 119 _ rfl
            obtain ⟨sq3, cq3, rfl, hO3, hI3⟩ := g119
            have g118 := H2 118 _ rfl
            have AP3 : Apd w11 _ _ so2_10 _ _ sq3 cq3 w12 := ⟨hO3, E6, hI3⟩
            have EA3 := AP3.fr
            have ow3 := AP3.own
            have ge3 : ∀ k, ob sq3 k → w0.heap.size ≤ k := fun k hk => (AP3.blk k hk).elim (ge2L_10 k) (fun h => Nat.le_trans F11.size h)
            have ne3_800 : ∀ k, ob sq3 k → k ≠ 1 := fun k hk => (AP3.blk k hk).elim (ne2L_10_800 k) (fun h => by have := ((((BL2_800.ext E3).ext E4).ext E5)).lt; omega)
            have ne3_21 : ∀ k, ob sq3 k → k ≠ b21 := fun k hk => (AP3.blk k hk).elim (ne2L_10_21 k) (fun h => by have := ((((BL2_21.ext E3).ext E4).ext E5)).lt; omega)
            have ne3_22 : ∀ k, ob sq3 k → k ≠ b22 := fun k hk => (AP3.blk k hk).elim (ne2L_10_22 k) (fun h => by have := ((((BL2_22.ext E3).ext E4).ext E5)).lt; omega)
            have ne3_23 : ∀ k, ob sq3 k → k ≠ b23 := fun k hk => (AP3.blk k hk).elim (ne2L_10_23 k) (fun h => by have := ((((BL2_23.ext E3).ext E4).ext E5)).lt; omega)
            have ne3_1019 : ∀ k, ob sq3 k → k ≠ I19.1 := fun k hk => (AP3.blk k hk).elim (nb1 k) (fun h => by have := (hB19).lt; omega)
            have sp3_11 : ∀ k, ob sq3 k → ob so2_11 k → False := fun k hk h2 => (AP3.blk k hk).elim (fun h => sp2L_10_11 k h h2) (fun h => by have := ((((ow2L_11.ext E3).ext E4).ext E5)).lt h2; omega)
            have F12 := F11.new EA3 ge2L_10
            have hzA3 := EA3.size
            have BA3_800 := (((BL2_800.ext E3).ext E4).ext E5).fr EA3 (fun h => ne2L_10_800 _ h rfl)
            have BA3_21 := (((BL2_21.ext E3).ext E4).ext E5).fr EA3 (fun h => ne2L_10_21 _ h rfl)
            have BA3_22 := (((BL2_22.ext E3).ext E4).ext E5).fr EA3 (fun h => ne2L_10_22 _ h rfl)
            have BA3_23 := (((BL2_23.ext E3).ext E4).ext E5).fr EA3 (fun h => ne2L_10_23 _ h rfl)
            have BA3_1019 := hB19.fr EA3 (fun h => nb1 _ h rfl)
            have oA3_11 := (((ow2L_11.ext E3).ext E4).ext E5).fr EA3 (fun k h1 h2 => sp2L_10_11 k h2 h1)
            have sr3_11 : ∀ k, ob so2_11 k → ob sq3 k → False := fun k h1 h2 => sp3_11 k h2 h1
            have hq10 := AP3.blk
            refine lx_set (want rfl) sz_24 (A2.at 8 rfl (A1.at 8 rfl rfl)) (t_agg rfl) rfl rfl rfl BA3_23 (Nat.le_of_ble_eq_true rfl) ?_
            intro w13 Es2 Bs2
            have F13 := F12.set Es2 (by omega)
            have hzs2 := Es2.size
            refine lx_value (want rfl) (as_slice rfl) ?_
            refine lx_nil ?_
            refine wk_region ?_
            refine lx_value (want rfl) (mv_int (A2.at 12 rfl hs1_12)) ?_
            refine lx_value (want rfl) (rn_add rfl rfl (by omega)) ?_
            refine lx_value (want rfl) (as_int rfl) ?_
            refine lx_nil ?_
            exact ⟨rfl, ((((((((((((((((((((((((((((((((((((((((((((((((((((((((((((((((((A1.up rfl _).up rfl _).up rfl _).up rfl _).up rfl _).up rfl _).up rfl _).up rfl _).up rfl _).up rfl _).up rfl _).up rfl _).up rfl _).up rfl _).loop A2 rfl).up rfl _).up rfl _).up rfl _).up rfl _).up rfl _).up rfl _).up rfl _).up rfl _).up rfl _).up rfl _).up rfl _).up rfl _).up rfl _).up rfl _).up rfl _).up rfl _).up rfl _).up rfl _).up rfl _).up rfl _).up rfl _).up rfl _).up rfl _).up rfl _).up rfl _).up rfl _).up rfl _).up rfl _).up rfl _).up rfl _).up rfl _).up rfl _).up rfl _).none _).up rfl _).up rfl _).up rfl _).up rfl _).up rfl _).up rfl _).up rfl _).up rfl _).up rfl _).up rfl _).up rfl _).up rfl _).none _).up rfl _).up rfl _).up rfl _).up rfl _), Fr.between F6 F13 (by omega), _, (by omega), i + 1, (putT (xd % 4) L2 ((((x.1 % 2 ^ (xd % 4)) : Nat) : Int), (((x.2.1 % 2 ^ (xd % 4)) : Nat) : Int), ((i : Nat) : Int))), (a ++ [((((x.1 % 2 ^ (xd % 4)) : Nat) : Int), (((x.2.1 % 2 ^ (xd % 4)) : Nat) : Int), ((i : Nat) : Int))]), o2, sP, cP, sq3, cq3, so2_11, co2_11, rfl, rfl, (BA3_800.ne Es2 (by omega)), (BA3_21.ne Es2 (by omega)), (BA3_22.ne Es2 (by omega)), (by have h := Bs2; first | exact h | (rw [hcn] at h; exact h)), (by rw [List.length_append]; exact rfl), (by rw [List.length_append]; exact own_app1 (ow3.ne Es2 (fun h => ne3_23 _ h rfl))), ge3, ne3_800, ne3_21, ne3_22, ne3_23, ho2_11, (oA3_11.ne Es2 (fun h => ne2L_11_23 _ h rfl)), ge2L_11, ne2L_11_800, ne2L_11_21, ne2L_11_22, ne2L_11_23, sp3_11, BufS.on hPB (Fr.trans (Fr.trans (Fr.refl (fun k => ob so2_10 k ∨ k = b23) w11) EA3 (fun k _ h => (.inl h))) Es2 (fun k _ h => (.inr h))) (fun k hk hlt h => by have := hk.1; (try dsimp only at h); rcases h with h | h <;> first | omega | (have := hlt10 k h; omega)) (fun k hk hlt => ⟨by omega, by have := hk.1; omega, by have := hk.1; omega, by have := hk.1; omega, fun h => (hq10 k h).elim (fun h => by have := hlt10 k h; have := hk.1; omega) (fun h => by have := hk.2; omega), fun h => by have := hlt11 k h; have := hk.1; omega⟩), by omega, hVn, Fill.put hF3 (Nat.mod_lt _ hp0) (Nat.mod_lt _ hp0) he0⟩
        ·
          have hpos : 0 < (movesL (xd % 4) ((xr % 8 + 1 : Nat) : Int) L2 L2.length).length := by omega
          refine lx_nil ?_
          refine wk_cond_f rfl ?_
          refine wk_skip ?_
          refine wk_seq ?_
          obtain ⟨m, hm⟩ : ∃ m, (movesL (xd % 4) ((xr % 8 + 1 : Nat) : Int) L2 L2.length)[(x.2.2 / 4 % (movesL (xd % 4) ((xr % 8 + 1 : Nat) : Int) L2 L2.length).length)]? = some m := ⟨_, List.getElem?_eq_getElem (Nat.mod_lt _ hpos)⟩
          obtain ⟨n, hnl, hab, rfl⟩ := moves_at hm
          obtain ⟨bm, om, hsM, _, hcm⟩ := hM _ _ hm
          subst hsM
          have hmo := mvO_len (xd % 4) n L2
          have hbd := fill_bd hd hr hF3
          have hlt10 : ∀ k, ob so2_10 k → k < w10.heap.size := fun k hk => (((ow2L_10.ext E3).ext E4)).lt hk
          have hlt11 : ∀ k, ob so2_11 k → k < w10.heap.size := fun k hk => (((ow2L_11.ext E3).ext E4)).lt hk
          have hb21lt := (((BL2_21.ext E3).ext E4)).lt
          have hb22lt := (((BL2_22.ext E3).ext E4)).lt
          have hb23lt := (((BL2_23.ext E3).ext E4)).lt
          refine wk_mix 24 (fun kS => match kS with | 1 => .any (fun I v w => w10.heap.size ≤ I.1 ∧ CubeI I ((xd % 4 : Nat) : Int) ((xr % 8 + 1 : Nat) : Int) L2 v w) | 16 => .any (fun I v w => w10.heap.size ≤ I.1 ∧ DoI I ((xd % 4 : Nat) : Int) ((xr % 8 + 1 : Nat) : Int) (mvL (xd % 4) L2 n) (mvO (xd % 4) L2 n) v w) | 21 => .any (fun I v w => v = .pointer (some ⟨I.1, 0, none⟩) ∧ w10.heap.size ≤ I.1 ∧ I.1 < I.2 ∧ Blk w I.1 [.int .i64 0, .int .i64 0, .slice none 0 0] 24) | 22 => .sto 16 89 (fun J u w => J.1 < J.2 ∧ Blk w J.1 u.cells.toList 24) | _ => .none) (by kernel_rfl) (by kernel_rfl) (by intro kS G hk; (try dsimp only at hk); (split at hk) <;> first | (cases hk; done) | (injection hk with hk; subst hk; exact ⟨by intro j hkj I v w w' hR hG; first | exact hG | (exact ⟨hG.1, hG.2.fr hR (fun _ _ _ h => h)⟩) | (exact ⟨hG.1, hG.2.fr hR (fun _ _ _ h => h)⟩) | (obtain ⟨h1, h2, hI, h3⟩ := hG; exact ⟨h1, h2, hI, h3.ext hR⟩), fun _ I v w w' hR hG => by first | exact hG | (exact ⟨hG.1, hG.2.fr hR (fun k h1 h2 h => h.2 ⟨h1, h2⟩)⟩) | (exact ⟨hG.1, hG.2.fr hR (fun k h1 h2 h => h.2 ⟨h1, h2⟩)⟩) | (obtain ⟨h1, h2, hI, h3⟩ := hG; exact ⟨h1, h2, hI, h3.fr hR (fun h => h.2 ⟨Nat.le_refl _, hI⟩)⟩)⟩)) (by intro kS s y G hk; (try dsimp only at hk); (split at hk) <;> first | (cases hk; done) | (injection hk with hk1 hk2 hk3; subst hk1; subst hk2; subst hk3; exact ⟨by kernel_rfl, by intro j hkj I v w w' hR hG; exact ⟨hG.1, hG.2.ext hR⟩, fun I v w w' hR hG => ⟨hG.1, hG.2.fr hR (fun h => h.2 ⟨Nat.le_refl _, hG.1⟩)⟩⟩)) ?_
          simp only [List.take_succ_cons, List.take_zero, List.take_nil, List.drop_succ_cons, List.drop_zero, List.drop_nil]
          refine mx_calm rfl (want rfl) (fun u19 eu19 fu19 => rn_loadBlk ag_24 sz_24 (A2.at 8 rfl (A1.at 8 rfl rfl)) (((BL2_23.ext E3).ext E4).ext ((ext_drawn _).trans' eu19)) rfl rfl) ?_
          refine mx_any rfl rfl (want rfl) (fun u20 eu20 fu20 => do_call (ent_func cf_23 (argsC (t_agg rfl) args0)) (copyR (copy_ct ((xd % 4 : Nat) : Int) ((xr % 8 + 1 : Nat) : Int) L2 _ _ _ hV3.bd u20 (hB3.fr (buf_stab _) (Fr.ext (Fr.ext (Fr.ext (Fr.refl no w8) E3) E4) ((ext_drawn _).trans' eu20)) (fun _ _ h => h)))) (fun v w' E h => ⟨E, ⟨((ext_drawn _).trans' eu20).size, h.in⟩⟩)) (fun I73 v73 => ?_)
          refine mx_calm rfl (want rfl) (fun u21 eu21 fu21 => mv_slice rfl) ?_
          refine mx_calm rfl (want rfl) (fun u22 eu22 fu22 => rn_fieldAddr fa_61_2 (A2.at 1 rfl (A1.at 1 rfl rfl))) ?_
          refine mx_calm rfl (want rfl) (fun u23 eu23 fu23 => rn_load1Blk ag_59 rfl (((BL2_21.ext E3).ext E4).ext ((ext_drawn _).trans' eu23)) rfl) ?_
          refine mx_calm rfl (want rfl) (fun u24 eu24 fu24 => mv_int (A2.at 12 rfl hs1_12)) ?_
          refine mx_calm rfl (want rfl) (fun u25 eu25 fu25 => rn_index i Tryd.underlying59 sz_103 rfl rfl rfl (List.getElem?_eq_some_iff.1 hx).1) ?_
          refine mx_calm rfl (want rfl) (fun u26 eu26 fu26 => rn_indexA (m := 2) 2 Tryd.underlying103 sz_5 rfl rfl rfl (by decide)) ?_
          refine mx_calm rfl (want rfl) (fun u27 eu27 fu27 => rn_load1 ag_5 rfl ((F10.ext ((ext_drawn _).trans' eu27)).cell (fun h => h) (hcx 2 _ rfl))) ?_
          refine mx_calm rfl (want rfl) (fun u28 eu28 fu28 => rn_quo8 (n := 4) rfl rfl (by omega)) ?_
          refine mx_calm rfl (want rfl) (fun u29 eu29 fu29 => rn_conv Tryd.underlying5 Tryd.underlying3 rfl (wrap64_nat (by omega))) ?_
          refine mx_calm rfl (want rfl) (fun u30 eu30 fu30 => mv_slice rfl) ?_
          refine mx_calm rfl (want rfl) (fun u31 eu31 fu31 => rn_len Tryd.underlying46 rfl) ?_
          refine mx_calm rfl (want rfl) (fun u32 eu32 fu32 => rn_remN rfl rfl hpos) ?_
          refine mx_calm rfl (want rfl) (fun u33 eu33 fu33 => rn_index (x.2.2 / 4 % (movesL (xd % 4) ((xr % 8 + 1 : Nat) : Int) L2 L2.length).length) Tryd.underlying46 sz_45 rfl rfl rfl (Nat.mod_lt _ hpos)) ?_
          refine mx_calm rfl (want rfl) (fun u34 eu34 fu34 => rn_load2 ag_45 sz_45 rfl ((Fr.ext (Fr.refl no w10) ((ext_drawn _).trans' eu34)).cell (fun h => h) (hcm 0 _ rfl)) ((Fr.ext (Fr.refl no w10) ((ext_drawn _).trans' eu34)).cell (fun h => h) (hcm 1 _ rfl))) ?_
          refine mx_any rfl rfl (want rfl) (fun u35 eu35 fu35 => by obtain ⟨_, sC2, cC2, rfl, hCB⟩ := fu35 73 _ rfl (show (73 : Nat) ∈ _ from by decide); exact do_call (ent_func cf_31 (argsC (t_agg rfl) (argsC (t_agg rfl) args0))) (xdo_ct ((xd % 4 : Nat) : Int) ((xr % 8 + 1 : Nat) : Int) L2 sC2 cC2 _ hV3.bd ((n / ((xd % 4) + 1) : Nat) : Int) ((n % ((xd % 4) + 1) : Nat) : Int) u35 hCB (((BL2_800.ext E3).ext E4).ext ((ext_drawn _).trans' eu35))) (fun v w' E h => ⟨E, ⟨((ext_drawn _).trans' eu35).size, h.in hV3 hab⟩⟩)) (fun I88 v88 => ?_)
          refine mx_calm (v := .tuple #[.agg #[.int .i64 ((xd % 4) : Nat), .int .i64 ((xr % 8 + 1 : Nat) : Int), .slice (sad (aget (tget v88 0) 2)) (mvL (xd % 4) L2 n).length (scp (aget (tget v88 0) 2))], .slice (sad (tget v88 1)) (mvO (xd % 4) L2 n).length (scp (tget v88 1)), .int .i64 0]) rfl (want rfl) (fun u36 eu36 fu36 => by obtain ⟨_, sD, cD, so, co, rfl, _, _⟩ := fu36 88 _ rfl (show (88 : Nat) ∈ _ from by decide); exact rn_move rfl) ?_
          refine mx_calm rfl (want rfl) (fun u37 eu37 fu37 => rn_extract rfl rfl) ?_
          refine mx_calm rfl (want rfl) (fun u38 eu38 fu38 => rn_extract rfl rfl) ?_
          refine mx_calm rfl (want rfl) (fun u39 eu39 fu39 => rn_extract rfl rfl) ?_
          refine mx_any rfl rfl (want rfl) (fun u40 eu40 fu40 => (do_new3 (rn_alloc ze_24) (show _ ≤ _ from (((ext_drawn _).trans' eu40)).size)).mono (fun v w' h => ⟨h.1, h.2⟩)) (fun I16 v16 => ?_)
          refine mx_sto rfl rfl rfl rfl (want rfl) (fun u41 eu41 fu41 _ => by obtain ⟨rfl, hl16, hi16, hB16⟩ := fu41 16 _ rfl (show (16 : Nat) ∈ _ from by decide); exact (do_sto sz_24 rfl rfl rfl rfl rfl hB16 rfl ⟨Nat.le_refl _, hi16⟩).mono (fun v w' h => ⟨h.1, h.2.1, hi16, h.2.2⟩)) ?_
          refine mx_calm rfl (want rfl) (fun u42 eu42 fu42 => as_slice rfl) ?_
          refine mx_nil (fun w11 E7' H3 HS => ?_)
          have E7 := (ext_drawn _).trans' E7'
          have F14 := F10.ext E7
          have hz7 := E7.size
          have hI16 := (HS.1 16 _ rfl).2
          have hI88 := (HS.1 88 _ rfl).2
          have hI73 := (HS.1 73 _ rfl).2
          have hX16_88 := HS.2 16 _ 88 _ rfl rfl (show (16 : Nat) ≠ 88 from by decide)
          have hX16_73 := HS.2 16 _ 73 _ rfl rfl (show (16 : Nat) ≠ 73 from by decide)
          have hX88_73 := HS.2 88 _ 73 _ rfl rfl (show (88 : Nat) ≠ 73 from by decide)
          simp only at hI16
          simp only at hI88
          simp only at hI73
          simp only at hX16_88
          simp only at hX16_73
          simp only at hX88_73
          have g16 := H3 16 _ rfl
          obtain ⟨⟨_, hv16, hb16, _, _⟩, hi16, hB16⟩ := g16; subst hv16; have hlb16 := hB16.lt
          have g88 := H3 88 _ rfl
          obtain ⟨hI88a, sD, cD, so, co, rfl, hDB, hDP⟩ := g88
          have g73 := H3 73 _ rfl
          obtain ⟨hI73a, sC73, cC73, rfl, hCB73⟩ := g73
          have nb3 : ∀ k, ob so2_10 k → k ≠ I16.1 := fun k hk => by have := (ow2L_10).lt hk; omega
          have nb4 : ∀ k, ob so2_11 k → k ≠ I16.1 := fun k hk => by have := (ow2L_11).lt hk; omega
          refine lx_value (want rfl) (as_int rfl) ?_
          refine lx_nil ?_
          refine wk_seq ?_
          refine wk_seq ?_
          refine wk_region ?_
          refine lx_value (want rfl) (mv_int rfl) ?_
          refine lx_value (want rfl) (rn_neq rfl rfl) ?_
          refine lx_dec_f ((fun h => h rfl)) ?_
          refine lx_nil ?_
          refine wk_cond_f rfl ?_
          refine wk_skip ?_
          have hOw := (((ow2L_11.ext E3).ext E4).ext E7)
          have hSl : ∀ k, (ob so2_11) k → k < w11.heap.size := fun k h => ((((ow2L_11.ext E3).ext E4).ext E7)).lt h
          refine wk_mixA 4 3 (ob so2_11) (fun kS => match kS with | 3 => .any (fun I v w => ∃ s c, v = .slice s (o2.length + (mvO (xd % 4) L2 n).length) c ∧ OwnS w 41 3 s (o2.length + (mvO (xd % 4) L2 n).length) c ((o2.flatMap pkC) ++ (mvO (xd % 4) L2 n).flatMap pkC) ∧ ∀ k, ob s k → (ob so2_11 k ∨ w11.heap.size ≤ k)) | _ => .none) (by kernel_rfl) (by kernel_rfl) (by intro kS G hk; (try dsimp only at hk); (split at hk) <;> first | (cases hk; done) | (injection hk with hk; subst hk; exact ⟨by intro j hkj I v w w' hR hG; first | exact hG | (obtain ⟨s, c, h1, h2, h3⟩ := hG; exact ⟨s, c, h1, h2.ext (mT hkj hR), h3⟩), fun ⟨_, _, _, _, hs⟩ => by (try dsimp only at hs); split at hs <;> cases hs⟩)) (by intro kS s y G hk; (try dsimp only at hk); split at hk <;> cases hk) ?_
          simp only [List.take_succ_cons, List.take_zero, List.take_nil, List.drop_succ_cons, List.drop_zero, List.drop_nil]
          refine mx_calm rfl (want rfl) (fun u43 eu43 fu43 => rn_loadBlk ag_24 sz_24 rfl (hB16.fr (mD (by decide) eu43) (fun h => nb4 _ h rfl)) rfl rfl) ?_
          refine mx_calm rfl (want rfl) (fun u44 eu44 fu44 => mv_slice ho2_11) ?_
          refine mx_calm rfl (want rfl) (fun u45 eu45 fu45 => mv_slice rfl) ?_
          refine mx_any rfl rfl (want rfl) (fun u46 eu46 fu46 => do_append 24 Tryd.underlying49 ti_41 (by decide) rfl (by decide) rfl rfl ((((ow2L_11.ext E3).ext E4).ext E7).ext (mC eu46)) ((hDP.fr (pk_stab _) (mC eu46) (fun _ _ h => h)).src (fun _ _ => rfl) (fun _ _ u hu => pk_one hu) (by decide)) (by omega) (fun sA cA wA AP => ⟨(mF AP.fr), ⟨sA, cA, rfl, AP.own, fun k hk => (AP.blk k hk).elim .inl (fun h => .inr (Nat.le_trans (mC eu46).size h))⟩⟩)) (fun I98 v98 => ?_)
          refine mx_nil (fun w12 E8' H4 HS => ?_)
          have E8 := mG E8'
          have hI98 := (HS.1 98 _ rfl).2
          simp only at hI98
          have g98 := H4 98 _ rfl
          obtain ⟨sq4, cq4, rfl, hO4, hI4⟩ := g98
          have AP4 : Apd w11 _ _ so2_11 _ _ sq4 cq4 w12 := ⟨hO4, E8, hI4⟩
          have EA4 := AP4.fr
          have ow4 := AP4.own
          have ge4 : ∀ k, ob sq4 k → w0.heap.size ≤ k := fun k hk => (AP4.blk k hk).elim (ge2L_11 k) (fun h => Nat.le_trans F14.size h)
          have ne4_800 : ∀ k, ob sq4 k → k ≠ 1 := fun k hk => (AP4.blk k hk).elim (ne2L_11_800 k) (fun h => by have := ((((BL2_800.ext E3).ext E4).ext E7)).lt; omega)
          have ne4_21 : ∀ k, ob sq4 k → k ≠ b21 := fun k hk => (AP4.blk k hk).elim (ne2L_11_21 k) (fun h => by have := ((((BL2_21.ext E3).ext E4).ext E7)).lt; omega)
          have ne4_22 : ∀ k, ob sq4 k → k ≠ b22 := fun k hk => (AP4.blk k hk).elim (ne2L_11_22 k) (fun h => by have := ((((BL2_22.ext E3).ext E4).ext E7)).lt; omega)
          have ne4_23 : ∀ k, ob sq4 k → k ≠ b23 := fun k hk => (AP4.blk k hk).elim (ne2L_11_23 k) (fun h => by have := ((((BL2_23.ext E3).ext E4).ext E7)).lt; omega)
          have ne4_1016 : ∀ k, ob sq4 k → k ≠ I16.1 := fun k hk => (AP4.blk k hk).elim (nb4 k) (fun h => by have := (hB16).lt; omega)
          have sp4_10 : ∀ k, ob sq4 k → ob so2_10 k → False := fun k hk h2 => (AP4.blk k hk).elim (fun h => (fun k h1 h2 => sp2L_10_11 k h2 h1) k h h2) (fun h => by have := ((((ow2L_10.ext E3).ext E4).ext E7)).lt h2; omega)
          have F15 := F14.new EA4 ge2L_11
          have hzA4 := EA4.size
          have BA4_800 := (((BL2_800.ext E3).ext E4).ext E7).fr EA4 (fun h => ne2L_11_800 _ h rfl)
          have BA4_21 := (((BL2_21.ext E3).ext E4).ext E7).fr EA4 (fun h => ne2L_11_21 _ h rfl)
          have BA4_22 := (((BL2_22.ext E3).ext E4).ext E7).fr EA4 (fun h => ne2L_11_22 _ h rfl)
          have BA4_23 := (((BL2_23.ext E3).ext E4).ext E7).fr EA4 (fun h => ne2L_11_23 _ h rfl)
          have BA4_1016 := hB16.fr EA4 (fun h => nb4 _ h rfl)
          have oA4_10 := (((ow2L_10.ext E3).ext E4).ext E7).fr EA4 (fun k h1 h2 => (fun k h1 h2 => sp2L_10_11 k h2 h1) k h2 h1)
          have sr4_10 : ∀ k, ob so2_10 k → ob sq4 k → False := fun k h1 h2 => sp4_10 k h2 h1
          have hq11 := AP4.blk
          refine lx_set (want rfl) sz_24 (A2.at 8 rfl (A1.at 8 rfl rfl)) (t_agg rfl) rfl rfl rfl BA4_23 (Nat.le_of_ble_eq_true rfl) ?_
          intro w13 Es3 Bs3
          have F16 := F15.set Es3 (by omega)
          have hzs3 := Es3.size
          refine lx_value (want rfl) (as_slice rfl) ?_
          refine lx_nil ?_
          refine wk_region ?_
          refine lx_value (want rfl) (mv_int hs2_13) ?_
          refine lx_value (want rfl) (rn_add rfl rfl (by omega)) ?_
          refine lx_value (want rfl) (as_int rfl) ?_
          refine lx_nil ?_
          exact ⟨rfl, (((((((((((((((((((((((((((((((((((((((((((((((((((((((((((A2.up rfl _).up rfl _).up rfl _).up rfl _).up rfl _).up rfl _).up rfl _).up rfl _).up rfl _).up rfl _).up rfl _).up rfl _).up rfl _).up rfl _).up rfl _).up rfl _).up rfl _).up rfl _).up rfl _).up rfl _).up rfl _).up rfl _).up rfl _).up rfl _).up rfl _).up rfl _).up rfl _).up rfl _).up rfl _).up rfl _).up rfl _).up rfl _).up rfl _).up rfl _).up rfl _).up rfl _).up rfl _).up rfl _).up rfl _).up rfl _).up rfl _).up rfl _).up rfl _).up rfl _).up rfl _).none _).up rfl _).up rfl _).up rfl _).up rfl _).up rfl _).up rfl _).up rfl _).up rfl _).none _).up rfl _).up rfl _).up rfl _).up rfl _), Fr.between F7 F16 (by omega), _, (by omega), k + 1, (mvL (xd % 4) L2 n), (o2 ++ mvO (xd % 4) L2 n), sD, cD, so2_10, co2_10, sq4, cq4, rfl, rfl, (BA4_800.ne Es3 (by omega)), (BA4_21.ne Es3 (by omega)), (BA4_22.ne Es3 (by omega)), Bs3, ho2_10, (oA4_10.ne Es3 (fun h => ne2L_10_23 _ h rfl)), ge2L_10, ne2L_10_800, ne2L_10_21, ne2L_10_22, ne2L_10_23, (by rw [List.length_append]; exact rfl), (by rw [List.length_append]; exact own_app (ow4.ne Es3 (fun h => ne4_23 _ h rfl))), ge4, ne4_800, ne4_21, ne4_22, ne4_23, sr4_10, BufS.on hDB (Fr.trans (Fr.trans (Fr.refl (fun k => ob so2_11 k ∨ k = b23) w11) EA4 (fun k _ h => (.inl h))) Es3 (fun k _ h => (.inr h))) (fun k hk hlt h => by have := hk.1; (try dsimp only at h); rcases h with h | h <;> first | omega | (have := hlt11 k h; omega)) (fun k hk hlt => ⟨by omega, by have := hk.1; omega, by have := hk.1; omega, by have := hk.1; omega, fun h => by have := hlt10 k h; have := hk.1; omega, fun h => (hq11 k h).elim (fun h => by have := hlt11 k h; have := hk.1; omega) (fun h => by have := hk.2; omega)⟩), by omega, mvL_valid hV3 hab, Fill.move hF3 hab⟩
      ·
        refine lx_nil ?_
        refine wk_cond_f rfl ?_
        refine wk_exit ?_
        refine wk_seq ?_
        have hpi := put_in (z := (i : Int)) hV3 (Nat.mod_lt x.1 hp0) (Nat.mod_lt x.2.1 hp0)
        have hbd2 := fill_bd hd hr hF3
        have hlt10 : ∀ k, ob so2_10 k → k < w8.heap.size := fun k hk => (ow2L_10).lt hk
        have hlt11 : ∀ k, ob so2_11 k → k < w8.heap.size := fun k hk => (ow2L_11).lt hk
        have hb21lt := (BL2_21).lt
        have hb22lt := (BL2_22).lt
        have hb23lt := (BL2_23).lt
        refine wk_mix 11 (fun kS => match kS with | 1 => .any (fun I v w => w8.heap.size ≤ I.1 ∧ CubeI I ((xd % 4 : Nat) : Int) ((xr % 8 + 1 : Nat) : Int) L2 v w) | 4 => .val (.agg #[.int .i64 ((x.1 % 2 ^ (xd % 4)) : Nat), .int .i64 ((x.2.1 % 2 ^ (xd % 4)) : Nat), .int .i64 i]) | 5 => .any (fun I v w => w8.heap.size ≤ I.1 ∧ PutI I (putC (((xd % 4) : Nat) : Int) ((xr % 8 + 1 : Nat) : Int) L2 ((((x.1 % 2 ^ (xd % 4)) : Nat) : Int), (((x.2.1 % 2 ^ (xd % 4)) : Nat) : Int), ((i : Nat) : Int))).1 (putC (((xd % 4) : Nat) : Int) ((xr % 8 + 1 : Nat) : Int) L2 ((((x.1 % 2 ^ (xd % 4)) : Nat) : Int), (((x.2.1 % 2 ^ (xd % 4)) : Nat) : Int), ((i : Nat) : Int))).2.1 (putC (((xd % 4) : Nat) : Int) ((xr % 8 + 1 : Nat) : Int) L2 ((((x.1 % 2 ^ (xd % 4)) : Nat) : Int), (((x.2.1 % 2 ^ (xd % 4)) : Nat) : Int), ((i : Nat) : Int))).2.2 (putE (((xd % 4) : Nat) : Int) ((xr % 8 + 1 : Nat) : Int) L2 ((((x.1 % 2 ^ (xd % 4)) : Nat) : Int), (((x.2.1 % 2 ^ (xd % 4)) : Nat) : Int), ((i : Nat) : Int))) v w) | 9 => .any (fun I v w => v = .pointer (some ⟨I.1, 0, none⟩) ∧ w8.heap.size ≤ I.1 ∧ I.1 < I.2 ∧ Blk w I.1 [.int .i64 0, .int .i64 0, .slice none 0 0] 24) | 10 => .sto 19 106 (fun J u w => J.1 < J.2 ∧ Blk w J.1 u.cells.toList 24) | _ => .none) (by kernel_rfl) (by kernel_rfl) (by intro kS G hk; (try dsimp only at hk); (split at hk) <;> first | (cases hk; done) | (injection hk with hk; subst hk; exact ⟨by intro j hkj I v w w' hR hG; first | exact hG | (exact ⟨hG.1, hG.2.fr hR (fun _ _ _ h => h)⟩) | (exact ⟨hG.1, hG.2.fr hR (fun _ _ _ h => h)⟩) | (obtain ⟨h1, h2, hI, h3⟩ := hG; exact ⟨h1, h2, hI, h3.ext hR⟩), fun _ I v w w' hR hG => by first | exact hG | (exact ⟨hG.1, hG.2.fr hR (fun k h1 h2 h => h.2 ⟨h1, h2⟩)⟩) | (exact ⟨hG.1, hG.2.fr hR (fun k h1 h2 h => h.2 ⟨h1, h2⟩)⟩) | (obtain ⟨h1, h2, hI, h3⟩ := hG; exact ⟨h1, h2, hI, h3.fr hR (fun h => h.2 ⟨Nat.le_refl _, hI⟩)⟩)⟩)) (by intro kS s y G hk; (try dsimp only at hk); (split at hk) <;> first | (cases hk; done) | (injection hk with hk1 hk2 hk3; subst hk1; subst hk2; subst hk3; exact ⟨by kernel_rfl, by intro j hkj I v w w' hR hG; exact ⟨hG.1, hG.2.ext hR⟩, fun I v w w' hR hG => ⟨hG.1, hG.2.fr hR (fun h => h.2 ⟨Nat.le_refl _, hG.1⟩)⟩⟩)) ?_
        simp only [List.take_succ_cons, List.take_zero, List.take_nil, List.drop_succ_cons, List.drop_zero, List.drop_nil]
        refine mx_calm rfl (want rfl) (fun u47 eu47 fu47 => rn_loadBlk ag_24 sz_24 (A2.at 8 rfl (A1.at 8 rfl rfl)) (BL2_23.ext ((ext_drawn _).trans' eu47)) rfl rfl) ?_
        refine mx_any rfl rfl (want rfl) (fun u48 eu48 fu48 => do_call (ent_func cf_23 (argsC (t_agg rfl) args0)) (copyR (copy_ct ((xd % 4 : Nat) : Int) ((xr % 8 + 1 : Nat) : Int) L2 _ _ _ hV3.bd u48 (hB3.fr (buf_stab _) (Fr.ext (Fr.refl no w8) ((ext_drawn _).trans' eu48)) (fun _ _ h => h)))) (fun v w' E h => ⟨E, ⟨((ext_drawn _).trans' eu48).size, h.in⟩⟩)) (fun I101 v101 => ?_)
        refine mx_calm rfl (want rfl) (fun u49 eu49 fu49 => rn_loadBlk ag_61 sz_61 (A2.at 1 rfl (A1.at 1 rfl rfl)) (BL2_21.ext ((ext_drawn _).trans' eu49)) rfl rfl) ?_
        refine mx_calm rfl (want rfl) (fun u50 eu50 fu50 => mv_int (A2.at 12 rfl hs1_12)) ?_
        refine mx_val rfl (want rfl) (fun u51 eu51 fu51 => do_call (ent_func cf_67 (argsC (t_agg rfl) (argsC (t_int rfl) args0))) (packet_ct xd xr hxd hxr X hXb _ _ _ i x hx u51 (hX.fr (sn_stab _) (F8.ext ((ext_drawn _).trans' eu51)) (fun _ _ h => h))) (fun _ _ E h => ⟨E, h⟩)) ?_
        refine mx_any rfl rfl (want rfl) (fun u52 eu52 fu52 => by obtain ⟨_, sC2, cC2, rfl, hCB⟩ := fu52 101 _ rfl (show (101 : Nat) ∈ _ from by decide); exact do_call (ent_func cf_28 (argsC (t_agg rfl) (argsC (t_agg rfl) args0))) (xput_ct ((xd % 4 : Nat) : Int) ((xr % 8 + 1 : Nat) : Int) L2 sC2 cC2 _ hV3.bd (((x.1 % 2 ^ (xd % 4)) : Nat) : Int) (((x.2.1 % 2 ^ (xd % 4)) : Nat) : Int) ((i : Nat) : Int) u52 hCB (BL2_800.ext ((ext_drawn _).trans' eu52))) (fun v w' E h => ⟨E, ⟨((ext_drawn _).trans' eu52).size, h.in⟩⟩)) (fun I105 v105 => ?_)
        refine mx_calm (v := .tuple #[.agg #[.int .i64 (putC (((xd % 4) : Nat) : Int) ((xr % 8 + 1 : Nat) : Int) L2 ((((x.1 % 2 ^ (xd % 4)) : Nat) : Int), (((x.2.1 % 2 ^ (xd % 4)) : Nat) : Int), ((i : Nat) : Int))).1, .int .i64 (putC (((xd % 4) : Nat) : Int) ((xr % 8 + 1 : Nat) : Int) L2 ((((x.1 % 2 ^ (xd % 4)) : Nat) : Int), (((x.2.1 % 2 ^ (xd % 4)) : Nat) : Int), ((i : Nat) : Int))).2.1, .slice (sad (aget (tget v105 0) 2)) (putC (((xd % 4) : Nat) : Int) ((xr % 8 + 1 : Nat) : Int) L2 ((((x.1 % 2 ^ (xd % 4)) : Nat) : Int), (((x.2.1 % 2 ^ (xd % 4)) : Nat) : Int), ((i : Nat) : Int))).2.2.length (scp (aget (tget v105 0) 2))], .int .i64 (putE (((xd % 4) : Nat) : Int) ((xr % 8 + 1 : Nat) : Int) L2 ((((x.1 % 2 ^ (xd % 4)) : Nat) : Int), (((x.2.1 % 2 ^ (xd % 4)) : Nat) : Int), ((i : Nat) : Int)))]) rfl (want rfl) (fun u53 eu53 fu53 => by obtain ⟨_, sP, cP, rfl, _⟩ := fu53 105 _ rfl (show (105 : Nat) ∈ _ from by decide); exact rn_move rfl) ?_
        refine mx_calm rfl (want rfl) (fun u54 eu54 fu54 => rn_extract rfl rfl) ?_
        refine mx_calm rfl (want rfl) (fun u55 eu55 fu55 => rn_extract rfl rfl) ?_
        refine mx_any rfl rfl (want rfl) (fun u56 eu56 fu56 => (do_new3 (rn_alloc ze_24) (show _ ≤ _ from (((ext_drawn _).trans' eu56)).size)).mono (fun v w' h => ⟨h.1, h.2⟩)) (fun I19 v19 => ?_)
        refine mx_sto rfl rfl rfl rfl (want rfl) (fun u57 eu57 fu57 _ => by obtain ⟨rfl, hl19, hi19, hB19⟩ := fu57 19 _ rfl (show (19 : Nat) ∈ _ from by decide); exact (do_sto sz_24 rfl rfl rfl rfl rfl hB19 rfl ⟨Nat.le_refl _, hi19⟩).mono (fun v w' h => ⟨h.1, h.2.1, hi19, h.2.2⟩)) ?_
        refine mx_nil (fun w9 E9' H5 HS => ?_)
        have E9 := (ext_drawn _).trans' E9'
        have F17 := F8.ext E9
        have hz9 := E9.size
        have hI19 := (HS.1 19 _ rfl).2
        have hI105 := (HS.1 105 _ rfl).2
        have hI101 := (HS.1 101 _ rfl).2
        have hX19_105 := HS.2 19 _ 105 _ rfl rfl (show (19 : Nat) ≠ 105 from by decide)
        have hX19_101 := HS.2 19 _ 101 _ rfl rfl (show (19 : Nat) ≠ 101 from by decide)
        have hX105_101 := HS.2 105 _ 101 _ rfl rfl (show (105 : Nat) ≠ 101 from by decide)
        simp only at hI19
        simp only at hI105
        simp only at hI101
        simp only at hX19_105
        simp only at hX19_101
        simp only at hX105_101
        have g19 := H5 19 _ rfl
        obtain ⟨⟨_, hv19, hb19, _, _⟩, hi19, hB19⟩ := g19; subst hv19; have hlb19 := hB19.lt
        have g105 := H5 105 _ rfl
        obtain ⟨hI105a, sP, cP, rfl, hPB⟩ := g105
        have g101 := H5 101 _ rfl
        obtain ⟨hI101a, sC101, cC101, rfl, hCB101⟩ := g101
        have nb5 : ∀ k, ob so2_10 k → k ≠ I19.1 := fun k hk => by have := (ow2L_10).lt hk; omega
        have nb6 : ∀ k, ob so2_11 k → k ≠ I19.1 := fun k hk => by have := (ow2L_11).lt hk; omega
        refine lx_value (want rfl) (as_int rfl) ?_
        refine lx_nil ?_
        refine wk_seq ?_
        refine wk_seq ?_
        refine wk_region ?_
        refine lx_value (want rfl) (mv_int rfl) ?_
        refine lx_value (want rfl) (rn_eql rfl rfl) ?_
        refine lx_dec (fun hfull => ?_) (fun hfull => ?_)
        ·
          refine lx_nil ?_
          refine wk_cond_t rfl ?_
          refine wk_exit ?_
          refine wk_region ?_
          refine lx_value (want rfl) (mv_int (A2.at 12 rfl hs1_12)) ?_
          refine lx_value (want rfl) (rn_add rfl rfl (by omega)) ?_
          refine lx_value (want rfl) (as_int rfl) ?_
          refine lx_nil ?_
          exact ⟨rfl, ((((((((((((((((((((((((((((((((((((((((((A1.up rfl _).up rfl _).up rfl _).up rfl _).up rfl _).up rfl _).up rfl _).up rfl _).up rfl _).up rfl _).up rfl _).up rfl _).up rfl _).up rfl _).loop A2 rfl).up rfl _).up rfl _).up rfl _).up rfl _).up rfl _).up rfl _).up rfl _).up rfl _).up rfl _).up rfl _).up rfl _).up rfl _).up rfl _).up rfl _).up rfl _).up rfl _).up rfl _).up rfl _).up rfl _).up rfl _).none _).up rfl _).up rfl _).up rfl _).up rfl _).up rfl _).up rfl _), Fr.between F6 F17 (by omega), _, (by omega), i + 1, L2, a, o2, sL2, cL2, so2_10, co2_10, so2_11, co2_11, rfl, rfl, (BL2_800.ext E9), (BL2_21.ext E9), (BL2_22.ext E9), (BL2_23.ext E9), ho2_10, (ow2L_10.ext E9), ge2L_10, ne2L_10_800, ne2L_10_21, ne2L_10_22, ne2L_10_23, ho2_11, (ow2L_11.ext E9), ge2L_11, ne2L_11_800, ne2L_11_21, ne2L_11_22, ne2L_11_23, sp2L_10_11, BufS.on hB3 (Fr.ext (Fr.refl no w8) E9) (fun _ _ _ h => h) (fun k hk hlt => ⟨by omega, hk.2⟩), by omega, hV3, Fill.skip hF3⟩
        ·
          obtain ⟨he0, hcn, hVn⟩ := hpi.resolve_left hfull
          rw [hcn] at hPB
          dsimp only at hPB
          refine lx_nil ?_
          refine wk_cond_f rfl ?_
          refine wk_skip ?_
          refine wk_seq ?_
          refine wk_seq ?_
          refine wk_region ?_
          refine lx_value (want rfl) (mv_int rfl) ?_
          refine lx_value (want rfl) (rn_neq rfl rfl) ?_
          refine lx_dec_f ((fun h => h he0)) ?_
          refine lx_nil ?_
          refine wk_cond_f rfl ?_
          refine wk_skip ?_
          have hOw := (ow2L_10.ext E9)
          have hSl : ∀ k, (ob so2_10) k → k < w9.heap.size := fun k h => ((ow2L_10.ext E9)).lt h
          refine wk_mixA 7 6 (ob so2_10) (fun kS => match kS with | 4 => .val (.agg #[.int .i64 ((x.1 % 2 ^ (xd % 4)) : Nat), .int .i64 ((x.2.1 % 2 ^ (xd % 4)) : Nat), .int .i64 i]) | 5 => .any (fun I v w => ∃ b, v = .slice (some ⟨b, 0, none⟩) 1 1 ∧ w9.heap.size ≤ b ∧ (I.1 ≤ b ∧ b < I.2) ∧ Blk w b [.int .i64 ((x.1 % 2 ^ (xd % 4)) : Nat), .int .i64 ((x.2.1 % 2 ^ (xd % 4)) : Nat), .int .i64 (i : Nat)] 41) | 6 => .any (fun I v w => ∃ s c, v = .slice s (a.length + 1) c ∧ OwnS w 41 3 s (a.length + 1) c ((a.flatMap pkC) ++ [.int .i64 ((x.1 % 2 ^ (xd % 4)) : Nat), .int .i64 ((x.2.1 % 2 ^ (xd % 4)) : Nat), .int .i64 (i : Nat)]) ∧ ∀ k, ob s k → (ob so2_10 k ∨ w9.heap.size ≤ k)) | _ => .none) (by kernel_rfl) (by kernel_rfl) (by intro kS G hk; (try dsimp only at hk); (split at hk) <;> first | (cases hk; done) | (injection hk with hk; subst hk; exact ⟨by intro j hkj I v w w' hR hG; first | exact hG | (obtain ⟨b, h1, h2, hI, h3⟩ := hG; exact ⟨b, h1, h2, hI, h3.fr (mS hR) (fun hs => by have := hOw.lt hs; omega)⟩) | (obtain ⟨s, c, h1, h2, h3⟩ := hG; exact ⟨s, c, h1, h2.ext (mT hkj hR), h3⟩), fun ⟨_, _, _, _, hs⟩ => by (try dsimp only at hs); split at hs <;> cases hs⟩)) (by intro kS s y G hk; (try dsimp only at hk); split at hk <;> cases hk) ?_
          simp only [List.take_succ_cons, List.take_zero, List.take_nil, List.drop_succ_cons, List.drop_zero, List.drop_nil]
          refine mx_calm rfl (want rfl) (fun u58 eu58 fu58 => rn_loadBlk ag_24 sz_24 rfl (hB19.fr (mD (by decide) eu58) (fun h => nb5 _ h rfl)) rfl rfl) ?_
          refine mx_calm rfl (want rfl) (fun u59 eu59 fu59 => mv_slice ho2_10) ?_
          refine mx_calm rfl (want rfl) (fun u60 eu60 fu60 => rn_loadBlk ag_61 sz_61 (A2.at 1 rfl (A1.at 1 rfl rfl)) ((BL2_21.ext E9).fr (mD (by decide) eu60) (fun h => ne2L_10_21 _ h rfl)) rfl rfl) ?_
          refine mx_calm rfl (want rfl) (fun u61 eu61 fu61 => mv_int (A2.at 12 rfl hs1_12)) ?_
          refine mx_val rfl (want rfl) (fun u62 eu62 fu62 => do_call (ent_func cf_67 (argsC (t_agg rfl) (argsC (t_int rfl) args0))) (packet_ct xd xr hxd hxr X hXb _ _ _ i x hx u62 (hX.fr (sn_stab _) (F17.new (mD (by decide) eu62) ge2L_10) (fun _ _ h => h))) (fun _ _ E h => ⟨(mE (by decide) E), h⟩)) ?_
          refine mx_any rfl rfl (want rfl) (fun u63 eu63 fu63 => (do_newS2 (rn_bslice (xs := [.tmp 117]) Tryd.underlying49 sz_41 ze_41 rfl (argsC (t_agg rfl) args0) (CL.cons rfl rfl CL.nil) rfl (Nat.le_of_ble_eq_true rfl)) (show _ ≤ _ from ((mD (by decide) eu63)).size)).mono (fun v w' h => ⟨(mE (by decide) h.1), h.2⟩)) (fun I118 v118 => ?_)
          refine mx_any rfl rfl (want rfl) (fun u64 eu64 fu64 => by obtain ⟨bS, rfl, hbS, _, hBS⟩ := fu64 118 _ rfl (show (118 : Nat) ∈ _ from by decide); exact do_append 24 Tryd.underlying49 ti_41 (by decide) rfl (by decide) rfl rfl ((ow2L_10.ext E9).ext (mC eu64)) (Src.blk hBS rfl rfl) (by omega) (fun sA cA wA AP => ⟨(mF AP.fr), ⟨sA, cA, rfl, AP.own, fun k hk => (AP.blk k hk).elim .inl (fun h => .inr (Nat.le_trans (mC eu64).size h))⟩⟩)) (fun I119 v119 => ?_)
          refine mx_nil (fun w10 E10' H6 HS => ?_)
          have E10 := mG E10'
          have hI119 := (HS.1 119 _ rfl).2
          have hI118 := (HS.1 118 _ rfl).2
          have hX119_118 := HS.2 119 _ 118 _ rfl rfl (show (119 : Nat) ≠ 118 from by decide)
          simp only at hI119
          simp only at hI118
          simp only at hX119_118
          have g119 := H6 119 _ rfl
          obtain ⟨sq5, cq5, rfl, hO5, hI5⟩ := g119
          have g118 := H6 118 _ rfl
          have AP5 : Apd w9 _ _ so2_10 _ _ sq5 cq5 w10 := ⟨hO5, E10, hI5⟩
          have EA5 := AP5.fr
          have ow5 := AP5.own
          have ge5 : ∀ k, ob sq5 k → w0.heap.size ≤ k := fun k hk => (AP5.blk k hk).elim (ge2L_10 k) (fun h => Nat.le_trans F17.size h)
          have ne5_800 : ∀ k, ob sq5 k → k ≠ 1 := fun k hk => (AP5.blk k hk).elim (ne2L_10_800 k) (fun h => by have := ((BL2_800.ext E9)).lt; omega)
          have ne5_21 : ∀ k, ob sq5 k → k ≠ b21 := fun k hk => (AP5.blk k hk).elim (ne2L_10_21 k) (fun h => by have := ((BL2_21.ext E9)).lt; omega)
          have ne5_22 : ∀ k, ob sq5 k → k ≠ b22 := fun k hk => (AP5.blk k hk).elim (ne2L_10_22 k) (fun h => by have := ((BL2_22.ext E9)).lt; omega)
          have ne5_23 : ∀ k, ob sq5 k → k ≠ b23 := fun k hk => (AP5.blk k hk).elim (ne2L_10_23 k) (fun h => by have := ((BL2_23.ext E9)).lt; omega)
          have ne5_1019 : ∀ k, ob sq5 k → k ≠ I19.1 := fun k hk => (AP5.blk k hk).elim (nb5 k) (fun h => by have := (hB19).lt; omega)
          have sp5_11 : ∀ k, ob sq5 k → ob so2_11 k → False := fun k hk h2 => (AP5.blk k hk).elim (fun h => sp2L_10_11 k h h2) (fun h => by have := ((ow2L_11.ext E9)).lt h2; omega)
          have F18 := F17.new EA5 ge2L_10
          have hzA5 := EA5.size
          have BA5_800 := (BL2_800.ext E9).fr EA5 (fun h => ne2L_10_800 _ h rfl)
          have BA5_21 := (BL2_21.ext E9).fr EA5 (fun h => ne2L_10_21 _ h rfl)
          have BA5_22 := (BL2_22.ext E9).fr EA5 (fun h => ne2L_10_22 _ h rfl)
          have BA5_23 := (BL2_23.ext E9).fr EA5 (fun h => ne2L_10_23 _ h rfl)
          have BA5_1019 := hB19.fr EA5 (fun h => nb5 _ h rfl)
          have oA5_11 := (ow2L_11.ext E9).fr EA5 (fun k h1 h2 => sp2L_10_11 k h2 h1)
          have sr5_11 : ∀ k, ob so2_11 k → ob sq5 k → False := fun k h1 h2 => sp5_11 k h2 h1
          have hq10 := AP5.blk
          refine lx_set (want rfl) sz_24 (A2.at 8 rfl (A1.at 8 rfl rfl)) (t_agg rfl) rfl rfl rfl BA5_23 (Nat.le_of_ble_eq_true rfl) ?_
          intro w11 Es4 Bs4
          have F19 := F18.set Es4 (by omega)
          have hzs4 := Es4.size
          refine lx_value (want rfl) (as_slice rfl) ?_
          refine lx_nil ?_
          refine wk_region ?_
          refine lx_value (want rfl) (mv_int (A2.at 12 rfl hs1_12)) ?_
          refine lx_value (want rfl) (rn_add rfl rfl (by omega)) ?_
          refine lx_value (want rfl) (as_int rfl) ?_
          refine lx_nil ?_
          exact ⟨rfl, (((((((((((((((((((((((((((((((((((((((((((((((((((((A1.up rfl _).up rfl _).up rfl _).up rfl _).up rfl _).up rfl _).up rfl _).up rfl _).up rfl _).up rfl _).up rfl _).up rfl _).up rfl _).up rfl _).loop A2 rfl).up rfl _).up rfl _).up rfl _).up rfl _).up rfl _).up rfl _).up rfl _).up rfl _).up rfl _).up rfl _).up rfl _).up rfl _).up rfl _).up rfl _).up rfl _).up rfl _).up rfl _).up rfl _).up rfl _).up rfl _).none _).up rfl _).up rfl _).up rfl _).up rfl _).up rfl _).up rfl _).up rfl _).up rfl _).up rfl _).up rfl _).up rfl _).up rfl _).none _).up rfl _).up rfl _).up rfl _).up rfl _), Fr.between F6 F19 (by omega), _, (by omega), i + 1, (putT (xd % 4) L2 ((((x.1 % 2 ^ (xd % 4)) : Nat) : Int), (((x.2.1 % 2 ^ (xd % 4)) : Nat) : Int), ((i : Nat) : Int))), (a ++ [((((x.1 % 2 ^ (xd % 4)) : Nat) : Int), (((x.2.1 % 2 ^ (xd % 4)) : Nat) : Int), ((i : Nat) : Int))]), o2, sP, cP, sq5, cq5, so2_11, co2_11, rfl, rfl, (BA5_800.ne Es4 (by omega)), (BA5_21.ne Es4 (by omega)), (BA5_22.ne Es4 (by omega)), (by have h := Bs4; first | exact h | (rw [hcn] at h; exact h)), (by rw [List.length_append]; exact rfl), (by rw [List.length_append]; exact own_app1 (ow5.ne Es4 (fun h => ne5_23 _ h rfl))), ge5, ne5_800, ne5_21, ne5_22, ne5_23, ho2_11, (oA5_11.ne Es4 (fun h => ne2L_11_23 _ h rfl)), ge2L_11, ne2L_11_800, ne2L_11_21, ne2L_11_22, ne2L_11_23, sp5_11, BufS.on hPB (Fr.trans (Fr.trans (Fr.refl (fun k => ob so2_10 k ∨ k = b23) w9) EA5 (fun k _ h => (.inl h))) Es4 (fun k _ h => (.inr h))) (fun k hk hlt h => by have := hk.1; (try dsimp only at h); rcases h with h | h <;> first | omega | (have := hlt10 k h; omega)) (fun k hk hlt => ⟨by omega, by have := hk.1; omega, by have := hk.1; omega, by have := hk.1; omega, fun h => (hq10 k h).elim (fun h => by have := hlt10 k h; have := hk.1; omega) (fun h => by have := hk.2; omega), fun h => by have := hlt11 k h; have := hk.1; omega⟩), by omega, hVn, Fill.put hF3 (Nat.mod_lt _ hp0) (Nat.mod_lt _ hp0) he0⟩
    ·
      refine lx_value (want rfl) (pick_t rfl rfl) ?_
      refine lx_value (want rfl) (mv_bool rfl) ?_
      refine lx_skip (want_if (j := 9) (d := 41) (x := true) (y := false) rfl rfl (by decide) rfl) ?_
      refine lx_skip (want_if (j := 9) (d := 41) (x := true) (y := false) rfl rfl (by decide) rfl) ?_
      refine lx_value (want rfl) (pick_f rfl rfl) ?_
      refine lx_nil ?_
      refine wk_cond_f rfl ?_
      refine wk_exit ?_
      refine wk_seq ?_
      refine wk_mixK 12 2 BL1_22 (fun kS => match kS with | 7 => .val (.bool true) | 9 => .sto 2 120 (fun J u w => J.1 < J.2 ∧ Blk w J.1 u.cells.toList 24) | _ => .none) (by kernel_rfl) (by kernel_rfl) (by intro kS G hk; (try dsimp only at hk); (split at hk) <;> first | (cases hk; done) | (injection hk with hk; subst hk; exact ⟨by intro j hkj I v w w' hR hG; first | exact hG, fun _ I v w w' hR hG => by first | exact hG⟩)) (by intro kS s y G hk; (try dsimp only at hk); (split at hk) <;> first | (cases hk; done) | (injection hk with hk1 hk2 hk3; subst hk1; subst hk2; subst hk3; exact ⟨by kernel_rfl, by intro j hkj I v w w' hR hG; exact ⟨hG.1, hG.2.ext hR⟩, fun I v w w' hR hG => ⟨hG.1, hG.2.fr hR (fun h => h.2 ⟨Nat.le_refl _, hG.1⟩)⟩⟩)) ?_
      simp only [List.take_succ_cons, List.take_zero, List.take_nil, List.drop_succ_cons, List.drop_zero, List.drop_nil]
      refine mx_calm rfl (want rfl) (fun u65 eu65 fu65 => rn_loadBlk ag_24 sz_24 (A1.at 8 rfl rfl) (BL1_23.fr (mG eu65) (show ¬ (b23 = b22) by omega)) rfl rfl) ?_
      refine mx_calm rfl (want rfl) (fun u66 eu66 fu66 => mv_slice ho1_10) ?_
      refine mx_calm rfl (want rfl) (fun u67 eu67 fu67 => mv_slice ho1_11) ?_
      refine mx_calm rfl (want rfl) (fun u68 eu68 fu68 => mv_int (A1.at 9 rfl rfl)) ?_
      refine mx_calm rfl (want rfl) (fun u69 eu69 fu69 => rn_eql rfl rfl) ?_
      refine mx_dec_t (hnw.1) ?_
      refine mx_calm rfl (want rfl) (fun u70 eu70 fu70 => mv_bool rfl) ?_
      refine mx_calm rfl (want_if (j := 5) (d := 125) (x := true) (y := true) rfl rfl (by decide) rfl) (fun u71 eu71 fu71 => rn_loadBlk ag_24 sz_24 (A1.at 8 rfl rfl) (BL1_23.fr (mG eu71) (show ¬ (b23 = b22) by omega)) rfl rfl) ?_
      refine mx_val rfl (want_if (j := 5) (d := 125) (x := true) (y := true) rfl rfl (by decide) rfl) (fun u72 eu72 fu72 => do_call (ent_func cf_22 (argsC (t_agg rfl) args0)) (thin_ct ((xd % 4 : Nat) : Int) ((xr % 8 + 1 : Nat) : Int) L _ _ _ u72 ((hB2.fr (buf_stab _) (Fr.refl no w7) (fun _ _ h => h)).fr (buf_stab _) (mG eu72) (fun k hk h => hk.2.2.1 h))) (fun _ _ E h => ⟨E, (h.trans (by rw [hV2.thin]))⟩)) ?_
      refine mx_calm rfl (want rfl) (fun u73 eu73 fu73 => pick_t rfl rfl) ?_
      refine mx_sto rfl rfl rfl rfl (want rfl) (fun u74 eu74 fu74 _ => by obtain hB2 := fu74 2 _ rfl (show (2 : Nat) ∈ _ from by decide); exact (do_sto sz_24 (by exact (A1.at 2 rfl rfl)) rfl rfl rfl rfl hB2 rfl ⟨Nat.le_refl _, (Nat.lt_succ_self _)⟩).mono (fun v w' h => ⟨h.1, h.2.1, (Nat.lt_succ_self _), h.2.2⟩)) ?_
      refine mx_calm rfl (want rfl) (fun u75 eu75 fu75 => as_slice rfl) ?_
      refine mx_calm rfl (want rfl) (fun u76 eu76 fu76 => as_slice rfl) ?_
      refine mx_nil (fun w8 E11' H7 HS => ?_)
      have E11 := mG E11'
      have F20 := F7.set E11 (by omega)
      have hz11 := E11.size
      obtain ⟨_, _, hBK8⟩ := H7 2 _ rfl
      refine lx_value (want rfl) (as_bool rfl) ?_
      refine lx_nil ?_
      refine wk_ret ?_
      refine retR4 Tryd.results38 (.cell (A1.at 2 rfl rfl) (run_loadVar_blk ag_24 sz_24 hBK8 rfl rfl)) (.tmp (t_slice rfl)) (.tmp (t_slice rfl)) (.tmp (t_bool rfl)) F20 ?_
      exact ⟨i, L, a, o, sL, cL, _, _, _, _, rfl, BufS.on hB2 (Fr.trans (Fr.refl (fun k => k = b22) w7) E11 (fun k _ h => h)) (fun k hk hlt h => hk.2.2.1 h) (fun k hk hlt => by omega), own_pkS (ow1L_10.ne E11 (fun h => ne1L_10_22 _ h rfl)), own_pkS (ow1L_11.ne E11 (fun h => ne1L_11_22 _ h rfl)), hi, hV2, hF2⟩
  ·
    refine lx_value (want rfl) (mv_bool rfl) ?_
    refine lx_skip (want_if (j := 5) (d := 37) (x := true) (y := false) rfl rfl (by decide) rfl) ?_
    refine lx_skip (want_if (j := 5) (d := 37) (x := true) (y := false) rfl rfl (by decide) rfl) ?_
    refine lx_value (want rfl) (pick_f rfl rfl) ?_
    refine lx_value (want rfl) (mv_bool rfl) ?_
    refine lx_skip (want_if (j := 9) (d := 41) (x := true) (y := false) rfl rfl (by decide) rfl) ?_
    refine lx_skip (want_if (j := 9) (d := 41) (x := true) (y := false) rfl rfl (by decide) rfl) ?_
    refine lx_value (want rfl) (pick_f rfl rfl) ?_
    refine lx_nil ?_
    refine wk_cond_f rfl ?_
    refine wk_exit ?_
    refine wk_seq ?_
    refine wk_mixK 12 2 BL1_22 (fun kS => match kS with | 7 => .val (.bool true) | 9 => .sto 2 120 (fun J u w => J.1 < J.2 ∧ Blk w J.1 u.cells.toList 24) | _ => .none) (by kernel_rfl) (by kernel_rfl) (by intro kS G hk; (try dsimp only at hk); (split at hk) <;> first | (cases hk; done) | (injection hk with hk; subst hk; exact ⟨by intro j hkj I v w w' hR hG; first | exact hG, fun _ I v w w' hR hG => by first | exact hG⟩)) (by intro kS s y G hk; (try dsimp only at hk); (split at hk) <;> first | (cases hk; done) | (injection hk with hk1 hk2 hk3; subst hk1; subst hk2; subst hk3; exact ⟨by kernel_rfl, by intro j hkj I v w w' hR hG; exact ⟨hG.1, hG.2.ext hR⟩, fun I v w w' hR hG => ⟨hG.1, hG.2.fr hR (fun h => h.2 ⟨Nat.le_refl _, hG.1⟩)⟩⟩)) ?_
    simp only [List.take_succ_cons, List.take_zero, List.take_nil, List.drop_succ_cons, List.drop_zero, List.drop_nil]
    refine mx_calm rfl (want rfl) (fun u77 eu77 fu77 => rn_loadBlk ag_24 sz_24 (A1.at 8 rfl rfl) (BL1_23.fr (mG eu77) (show ¬ (b23 = b22) by omega)) rfl rfl) ?_
    refine mx_calm rfl (want rfl) (fun u78 eu78 fu78 => mv_slice ho1_10) ?_
    refine mx_calm rfl (want rfl) (fun u79 eu79 fu79 => mv_slice ho1_11) ?_
    refine mx_calm rfl (want rfl) (fun u80 eu80 fu80 => mv_int (A1.at 9 rfl rfl)) ?_
    refine mx_calm rfl (want rfl) (fun u81 eu81 fu81 => rn_eql rfl rfl) ?_
    refine mx_dec_t (hnw.1) ?_
    refine mx_calm rfl (want rfl) (fun u82 eu82 fu82 => mv_bool rfl) ?_
    refine mx_calm rfl (want_if (j := 5) (d := 125) (x := true) (y := true) rfl rfl (by decide) rfl) (fun u83 eu83 fu83 => rn_loadBlk ag_24 sz_24 (A1.at 8 rfl rfl) (BL1_23.fr (mG eu83) (show ¬ (b23 = b22) by omega)) rfl rfl) ?_
    refine mx_val rfl (want_if (j := 5) (d := 125) (x := true) (y := true) rfl rfl (by decide) rfl) (fun u84 eu84 fu84 => do_call (ent_func cf_22 (argsC (t_agg rfl) args0)) (thin_ct ((xd % 4 : Nat) : Int) ((xr % 8 + 1 : Nat) : Int) L _ _ _ u84 ((hB2.fr (buf_stab _) (Fr.refl no w7) (fun _ _ h => h)).fr (buf_stab _) (mG eu84) (fun k hk h => hk.2.2.1 h))) (fun _ _ E h => ⟨E, (h.trans (by rw [hV2.thin]))⟩)) ?_
    refine mx_calm rfl (want rfl) (fun u85 eu85 fu85 => pick_t rfl rfl) ?_
    refine mx_sto rfl rfl rfl rfl (want rfl) (fun u86 eu86 fu86 _ => by obtain hB2 := fu86 2 _ rfl (show (2 : Nat) ∈ _ from by decide); exact (do_sto sz_24 (by exact (A1.at 2 rfl rfl)) rfl rfl rfl rfl hB2 rfl ⟨Nat.le_refl _, (Nat.lt_succ_self _)⟩).mono (fun v w' h => ⟨h.1, h.2.1, (Nat.lt_succ_self _), h.2.2⟩)) ?_
    refine mx_calm rfl (want rfl) (fun u87 eu87 fu87 => as_slice rfl) ?_
    refine mx_calm rfl (want rfl) (fun u88 eu88 fu88 => as_slice rfl) ?_
    refine mx_nil (fun w8 E12' H8 HS => ?_)
    have E12 := mG E12'
    have F21 := F7.set E12 (by omega)
    have hz12 := E12.size
    obtain ⟨_, _, hBK8⟩ := H8 2 _ rfl
    refine lx_value (want rfl) (as_bool rfl) ?_
    refine lx_nil ?_
    refine wk_ret ?_
    refine retR4 Tryd.results38 (.cell (A1.at 2 rfl rfl) (run_loadVar_blk ag_24 sz_24 hBK8 rfl rfl)) (.tmp (t_slice rfl)) (.tmp (t_slice rfl)) (.tmp (t_bool rfl)) F21 ?_
    exact ⟨i, L, a, o, sL, cL, _, _, _, _, rfl, BufS.on hB2 (Fr.trans (Fr.refl (fun k => k = b22) w7) E12 (fun k _ h => h)) (fun k hk hlt h => hk.2.2.1 h) (fun k hk hlt => by omega), own_pkS (ow1L_10.ne E12 (fun h => ne1L_10_22 _ h rfl)), own_pkS (ow1L_11.ne E12 (fun h => ne1L_11_22 _ h rfl)), hi, hV2, hF2⟩

set_option maxHeartbeats 4000000 in
set_option maxRecDepth 100000 in
theorem cubeless_ct (xd xr : Nat) (hxd : xd < 256) (hxr : xr < 256) (X : List (Nat × Nat × Nat)) (hXb : ∀ x ∈ X, x.1 < 256 ∧ x.2.1 < 256 ∧ x.2.2 < 256) (sx : Option Addr) (cx : Nat) (Gx : Nat → Prop) (w0 : World) (hX : Sl Gx w0 sx 3 X (Fl sC)) (hT : Tb w0 1) :
    CT Tryd.prog 14 [.agg #[.int .u8 xd, .int .u8 xr, .slice sx X.length cx]] w0 no (fun v _ => v = .bool true) := by
  have hTl := hT.lt
  have hd : xd % 4 ≤ 3 := by omega
  have hr : 1 ≤ ((xr % 8 + 1 : Nat) : Int) ∧ ((xr % 8 + 1 : Nat) : Int) ≤ 8 := by omega
  have hp0 := Nat.two_pow_pos (xd % 4)
  have hp8 := pow2_le (xd % 4) (Nat.le_refl _) hd
  have F0 := Fr.refl no w0
  refine ct_body Tryd.func14 rfl Tryd.ntmps14 (Nat.le_of_ble_eq_true rfl) ?_
  refine wk_seq ?_
  refine wk_region ?_
  refine lx_new (want rfl) (rn_box (t_agg rfl)) ?_
  intro b21 w1 hb21 Eb21 B21 hlb21
  have F1 := F0.ext Eb21
  have hzb21 := Eb21.size
  refine lx_value (want rfl) (as_bool rfl) ?_
  refine lx_nil ?_
  refine wk_seq ?_
  refine wk_region ?_
  refine lx_value (want rfl) (rn_loadBlk ag_61 sz_61 rfl B21 rfl rfl) ?_
  refine lx_call (want rfl) (ent_func cf_38 (argsC (t_agg rfl) args0)) (filled_ct xd xr hxd hxr X hXb _ _ _ w1 (hX.fr (sn_stab _) F1 (fun _ _ h => h)) (hT.ext Eb21)) ?_
  rintro _ w2 E1 ⟨nn, LQ, aQ, oQ, sQ, cQ, saQ, caQ, soQ, coQ, rfl, hLQ, haQ, hoQ, hnQ, hVQ, hFQ⟩
  have F2 := F1.ext E1
  have hz1 := E1.size
  refine lx_value (want rfl) (mv_tuple rfl) ?_
  refine lx_value (want rfl) (rn_extract rfl rfl) ?_
  refine lx_value (want rfl) (rn_extract rfl rfl) ?_
  refine lx_value (want rfl) (rn_extract rfl rfl) ?_
  refine lx_value (want rfl) (rn_extract rfl rfl) ?_
  refine lx_b_t (rfl) ?_
  refine lx_new (want rfl) (rn_alloc ze_24) ?_
  intro b22 w3 hb22 Eb22 B22 hlb22
  have F3 := F2.ext Eb22
  have hzb22 := Eb22.size
  refine lx_set (want rfl) sz_24 rfl (t_agg rfl) rfl rfl rfl B22 (Nat.le_of_ble_eq_true rfl) ?_
  intro w4 Es1 Bs1
  have F4 := F3.set Es1 (by omega)
  have hzs1 := Es1.size
  refine lx_value (want rfl) (as_slice rfl) ?_
  refine lx_value (want rfl) (as_slice rfl) ?_
  refine lx_value (want rfl) (as_bool rfl) ?_
  refine lx_nil ?_
  refine wk_seq ?_
  refine wk_seq ?_
  refine wk_region ?_
  refine lx_value (want rfl) (mv_bool rfl) ?_
  refine lx_value (want rfl) (rn_not rfl) ?_
  refine lx_nil ?_
  refine wk_cond_f rfl ?_
  refine wk_skip ?_
  refine wk_seq ?_
  refine wk_seq ?_
  refine wk_region ?_
  refine lx_value (want rfl) (as_int rfl) ?_
  refine lx_nil ?_
  refine wk_block ?_
  refine wk_loopA [2, 7, 8, 9, 10, 11, 12, 13, 14, 24, 25, 26, 27, 28, 29, 30, 31, 32, 33, 34, 35, 36, 37, 38, 39, 40, 41, 42, 43, 44, 45, 46, 47, 48, 49, 50, 51, 52, 53, 54, 55, 56, 57, 58, 59, 60, 61, 62, 63, 64, 65, 66, 67, 68, 69, 70, 71, 72, 73, 74, 75, 76, 77, 78, 79, 80, 81, 82, 83, 84, 85, 86, 87, 88] (fun j => no j ∨ w0.heap.size ≤ j) (fun nM ρ w => ∃ (i : Nat) (L : List (List Pk)) (sL : Option Addr) (cL : Nat), nM = 400 - i ∧ ρ 7 = .int .i64 i ∧ Tb w 1 ∧ Blk w b21 (cellsOf B21) 61 ∧ Blk w b22 [.int .i64 ((xd % 4) : Nat), .int .i64 ((xr % 8 + 1 : Nat) : Int), .slice sL L.length cL] 24 ∧ (BufS (fun j => j < w.heap.size ∧ j ≠ b22) w sL L) ∧ (Valid (xd % 4) ((xr % 8 + 1 : Nat) : Int) L) ∧ (i + leftN (xd % 4) L L.length ≤ 240)) _ ⟨0, LQ, sQ, cQ, rfl, rfl, ((((hT.ext Eb21).ext E1).ext Eb22).ne Es1 (by omega)), (((B21.ext E1).ext Eb22).ne Es1 (by omega)), Bs1, BufS.on hLQ (Fr.trans (Fr.ext (Fr.refl (fun k => k = b22) w2) Eb22) Es1 (fun k _ h => h)) (fun k hk hlt h => by first | exact h | ((try dsimp only at h); omega)) (fun k hk hlt => ⟨by omega, by omega⟩), hVQ, by have := fill_left hd hr hFQ; have := fill_in hFQ; omega⟩ ?_
  rintro n1 ρ1 w5 A1 EL1 ⟨i, L, sL, cL, rfl, hs1_7, BL1_800, BL1_21, BL1_22, hB2, hV2, hil⟩
  have F5 := F4.wide EL1
  have hzL1 := EL1.size
  refine wk_seq ?_
  refine wk_seq ?_
  refine wk_region ?_
  refine lx_value (want rfl) (mv_int hs1_7) ?_
  refine lx_value (want rfl) (rn_lss rfl rfl) ?_
  refine lx_dec_t ((by omega)) ?_
  refine lx_nil ?_
  refine wk_cond_t rfl ?_
  refine wk_skip ?_
  refine wk_seq ?_
  refine wk_block ?_
  refine wk_seq ?_
  refine wk_region ?_
  refine lx_value (want rfl) (rn_loadBlk ag_24 sz_24 (A1.at 3 rfl rfl) BL1_22 rfl rfl) ?_
  refine lx_call (want rfl) (ent_func cf_23 (argsC (t_agg rfl) args0)) (copyR (copy_ct ((xd % 4 : Nat) : Int) ((xr % 8 + 1 : Nat) : Int) L _ _ _ (hV2).bd w5 (hB2.fr (buf_stab _) (Fr.refl no w5) (fun _ _ h => h)))) ?_
  rintro _ w6 E2 ⟨sC, cC, rfl, hC⟩
  have F6 := F5.ext E2
  have hz2 := E2.size
  refine lx_call (want rfl) (ent_func cf_25 (argsC (t_agg rfl) args0)) (leftV (hV2) (xleft_ct ((xd % 4 : Nat) : Int) ((xr % 8 + 1 : Nat) : Int) L _ _ _ (hV2).bd w6 (hC.fr (buf_stab _) (Fr.refl no w6) (fun k hk h => by first | exact h | (have := hk.1; have := hk.2; (try dsimp only at h); first | omega | (rcases h with h | h <;> first | omega | (have := ob_some h; omega))))) (BL1_800.ext E2))) ?_
  rintro _ w7 E3 rfl
  have F7 := F6.ext E3
  have hz3 := E3.size
  refine lx_value (want rfl) (mv_tuple rfl) ?_
  refine lx_value (want rfl) (rn_extract rfl rfl) ?_
  refine lx_value (want rfl) (rn_extract rfl rfl) ?_
  refine lx_value (want rfl) (as_int rfl) ?_
  refine lx_value (want rfl) (as_int rfl) ?_
  refine lx_nil ?_
  refine wk_seq ?_
  refine wk_region ?_
  refine lx_value (want rfl) (rn_loadBlk ag_24 sz_24 (A1.at 3 rfl rfl) ((BL1_22.ext E2).ext E3) rfl rfl) ?_
  refine lx_call (want rfl) (ent_func cf_23 (argsC (t_agg rfl) args0)) (copyR (copy_ct ((xd % 4 : Nat) : Int) ((xr % 8 + 1 : Nat) : Int) L _ _ _ (hV2).bd w7 (hB2.fr (buf_stab _) (Fr.ext (Fr.ext (Fr.refl no w5) E2) E3) (fun _ _ h => h)))) ?_
  rintro _ w8 E4 ⟨sD, cD, rfl, hD⟩
  have F8 := F7.ext E4
  have hz4 := E4.size
  have hb22lt := ((((BL1_22.ext E2).ext E3).ext E4)).lt
  refine lx_call (want rfl) (ent_func cf_44 (argsC (t_agg rfl) args0)) (roundV hV2 (xround_ct ((xd % 4 : Nat) : Int) ((xr % 8 + 1 : Nat) : Int) L _ _ _ hV2.bd w8 (hD.fr (buf_stab _) (Fr.refl no w8) (fun k hk h => by first | exact h | (have := hk.1; have := hk.2; (try dsimp only at h); first | omega | (rcases h with h | h <;> first | omega | (have := ob_some h; omega))))) (((BL1_800.ext E2).ext E3).ext E4))) ?_
  rintro _ w9 E5 ⟨sN, cN, so, co, rfl, hNB, hOB⟩
  have F9 := F8.ext E5
  have hz5 := E5.size
  have hVN := round_valid hV2 L.length
  have hlen : (rdB (xd % 4) ((xr % 8 + 1 : Nat) : Int) L L.length).1.length = L.length := by rw [hVN.len, hV2.len]
  have hrl := round_left hV2
  have hgl := goN_le (xd % 4) ((xr % 8 + 1 : Nat) : Int) L L.length
  have hlL := prod_le hd
  have hLn := hV2.len
  refine lx_value (want rfl) (mv_tuple rfl) ?_
  refine lx_value (want rfl) (rn_extract rfl rfl) ?_
  refine lx_value (want rfl) (rn_extract rfl rfl) ?_
  refine lx_value (want rfl) (rn_extract rfl rfl) ?_
  refine lx_new (want rfl) (rn_alloc ze_24) ?_
  intro b23 w10 hb23 Eb23 B23 hlb23
  have F10 := F9.ext Eb23
  have hzb23 := Eb23.size
  refine lx_set (want rfl) sz_24 rfl (t_agg rfl) rfl rfl rfl B23 (Nat.le_of_ble_eq_true rfl) ?_
  intro w11 Es2 Bs2
  have F11 := F10.set Es2 (by omega)
  have hzs2 := Es2.size
  refine lx_value (want rfl) (as_slice rfl) ?_
  refine lx_value (want rfl) (as_int rfl) ?_
  refine lx_nil ?_
  refine wk_seq ?_
  refine wk_region ?_
  refine lx_value (want rfl) (rn_loadBlk ag_24 sz_24 rfl Bs2 rfl rfl) ?_
  refine lx_call (want rfl) (ent_func cf_23 (argsC (t_agg rfl) args0)) (copyR (copy_ct ((xd % 4 : Nat) : Int) ((xr % 8 + 1 : Nat) : Int) (rdB (xd % 4) ((xr % 8 + 1 : Nat) : Int) L L.length).1 _ _ _ hVN.bd w11 (hNB.fr (buf_stab _) (Fr.trans (Fr.ext (Fr.refl (fun k => k = b23) w9) Eb23) Es2 (fun k _ h => h)) (fun k hk h => by first | exact h | (have := hk.1; have := hk.2; (try dsimp only at h); omega))))) ?_
  rintro _ w12 E6 ⟨sG, cG, rfl, hG⟩
  have F12 := F11.ext E6
  have hz6 := E6.size
  refine lx_call (want rfl) (ent_func cf_25 (argsC (t_agg rfl) args0)) (leftV (hVN) (xleft_ct ((xd % 4 : Nat) : Int) ((xr % 8 + 1 : Nat) : Int) (rdB (xd % 4) ((xr % 8 + 1 : Nat) : Int) L L.length).1 _ _ _ (hVN).bd w12 (hG.fr (buf_stab _) (Fr.refl no w12) (fun k hk h => by first | exact h | (have := hk.1; have := hk.2; (try dsimp only at h); first | omega | (rcases h with h | h <;> first | omega | (have := ob_some h; omega))))) (((((((BL1_800.ext E2).ext E3).ext E4).ext E5).ext Eb23).ne Es2 (by omega)).ext E6))) ?_
  rintro _ w13 E7 rfl
  have F13 := F12.ext E7
  have hz7 := E7.size
  refine lx_value (want rfl) (mv_tuple rfl) ?_
  refine lx_value (want rfl) (rn_extract rfl rfl) ?_
  refine lx_value (want rfl) (rn_extract rfl rfl) ?_
  refine lx_value (want rfl) (as_int rfl) ?_
  refine lx_value (want rfl) (as_int rfl) ?_
  refine lx_nil ?_
  refine wk_seq ?_
  refine wk_seq ?_
  refine wk_region ?_
  refine lx_value (want rfl) (mv_int rfl) ?_
  refine lx_value (want rfl) (rn_neq rfl rfl) ?_
  refine lx_dec_f ((fun h => h rfl)) ?_
  refine lx_value (want rfl) (mv_bool rfl) ?_
  refine lx_value (want_if (j := 2) (d := 49) (x := false) (y := false) rfl rfl (by decide) rfl) (mv_int rfl) ?_
  refine lx_value (want_if (j := 2) (d := 49) (x := false) (y := false) rfl rfl (by decide) rfl) (rn_neq rfl rfl) ?_
  refine lx_dec_f ((fun h => h rfl)) ?_
  refine lx_value (want rfl) (pick_f rfl rfl) ?_
  refine lx_value (want rfl) (mv_bool rfl) ?_
  refine lx_value (want_if (j := 6) (d := 53) (x := false) (y := false) rfl rfl (by decide) rfl) (mv_int rfl) ?_
  refine lx_value (want_if (j := 6) (d := 53) (x := false) (y := false) rfl rfl (by decide) rfl) (rn_neq rfl rfl) ?_
  refine lx_dec_f ((fun h => h rfl)) ?_
  refine lx_value (want rfl) (pick_f rfl rfl) ?_
  refine lx_value (want rfl) (mv_bool rfl) ?_
  refine lx_value (want_if (j := 10) (d := 57) (x := false) (y := false) rfl rfl (by decide) rfl) (rn_loadBlk ag_24 sz_24 rfl ((Bs2.ext E6).ext E7) rfl rfl) ?_
  refine lx_call (want_if (j := 10) (d := 57) (x := false) (y := false) rfl rfl (by decide) rfl) (ent_func cf_22 (argsC (t_agg rfl) args0)) (thin_ct ((xd % 4 : Nat) : Int) ((xr % 8 + 1 : Nat) : Int) (rdB (xd % 4) ((xr % 8 + 1 : Nat) : Int) L L.length).1 _ _ _ w13 (hNB.fr (buf_stab _) (Fr.ext (Fr.ext (Fr.trans (Fr.ext (Fr.refl (fun k => k = b23) w9) Eb23) Es2 (fun k _ h => h)) E6) E7) (fun k hk h => by first | exact h | (have := hk.1; have := hk.2; (try dsimp only at h); omega)))) ?_
  rintro _ w14 E8 rfl
  have F14 := F13.ext E8
  have hz8 := E8.size
  refine lx_b_t (hVN.thin) ?_
  refine lx_value (want_if (j := 10) (d := 57) (x := false) (y := false) rfl rfl (by decide) rfl) (rn_not rfl) ?_
  refine lx_value (want rfl) (pick_f rfl rfl) ?_
  refine lx_value (want rfl) (mv_bool rfl) ?_
  refine lx_value (want_if (j := 15) (d := 62) (x := false) (y := false) rfl rfl (by decide) rfl) (mv_int rfl) ?_
  refine lx_value (want_if (j := 15) (d := 62) (x := false) (y := false) rfl rfl (by decide) rfl) (mv_int rfl) ?_
  refine lx_value (want_if (j := 15) (d := 62) (x := false) (y := false) rfl rfl (by decide) rfl) (rn_gtr rfl rfl) ?_
  refine lx_dec_f ((by rw [hlen]; omega)) ?_
  refine lx_value (want rfl) (pick_f rfl rfl) ?_
  refine lx_value (want rfl) (mv_bool rfl) ?_
  refine lx_value (want_if (j := 20) (d := 67) (x := false) (y := false) rfl rfl (by decide) rfl) (mv_int rfl) ?_
  refine lx_value (want_if (j := 20) (d := 67) (x := false) (y := false) rfl rfl (by decide) rfl) (mv_int rfl) ?_
  refine lx_value (want_if (j := 20) (d := 67) (x := false) (y := false) rfl rfl (by decide) rfl) (rn_subN rfl rfl ⟨by rw [hlen]; omega, by omega⟩) ?_
  refine lx_value (want_if (j := 20) (d := 67) (x := false) (y := false) rfl rfl (by decide) rfl) (rn_fieldAddr fa_24_2 (A1.at 3 rfl rfl)) ?_
  refine lx_value (want_if (j := 20) (d := 67) (x := false) (y := false) rfl rfl (by decide) rfl) (rn_load1Blk ag_22 rfl (((((((((BL1_22.ext E2).ext E3).ext E4).ext E5).ext Eb23).ne Es2 (by omega)).ext E6).ext E7).ext E8) rfl) ?_
  refine lx_value (want_if (j := 20) (d := 67) (x := false) (y := false) rfl rfl (by decide) rfl) (rn_len Tryd.underlying22 rfl) ?_
  refine lx_value (want_if (j := 20) (d := 67) (x := false) (y := false) rfl rfl (by decide) rfl) (rn_gtr rfl rfl) ?_
  refine lx_dec_f ((by rw [hlen]; omega)) ?_
  refine lx_value (want rfl) (pick_f rfl rfl) ?_
  refine lx_value (want rfl) (mv_bool rfl) ?_
  refine lx_value (want_if (j := 29) (d := 76) (x := false) (y := false) rfl rfl (by decide) rfl) (mv_int rfl) ?_
  refine lx_value (want_if (j := 29) (d := 76) (x := false) (y := false) rfl rfl (by decide) rfl) (rn_gtr rfl rfl) ?_
  refine lx_dec (fun hl0 => ?_) (fun hl0 => ?_)
  ·
    have hgo := left_go hV2 (by omega)
    refine lx_value (want_if (j := 29) (d := 76) (x := false) (y := false) rfl rfl (by decide) rfl) (mv_bool rfl) ?_
    refine lx_value (want_if (j := 32) (d := 79) (x := true) (y := true) rfl rfl (by decide) rfl) (mv_int rfl) ?_
    refine lx_value (want_if (j := 32) (d := 79) (x := true) (y := true) rfl rfl (by decide) rfl) (mv_int rfl) ?_
    refine lx_value (want_if (j := 32) (d := 79) (x := true) (y := true) rfl rfl (by decide) rfl) (rn_eql rfl rfl) ?_
    refine lx_dec_f ((by rw [hlen]; omega)) ?_
    refine lx_value (want_if (j := 29) (d := 76) (x := false) (y := false) rfl rfl (by decide) rfl) (pick_t rfl rfl) ?_
    refine lx_value (want rfl) (pick_f rfl rfl) ?_
    refine lx_nil ?_
    refine wk_cond_f rfl ?_
    refine wk_skip ?_
    refine wk_seq ?_
    refine wk_region ?_
    refine lx_value (want rfl) (rn_loadBlk ag_24 sz_24 rfl (((Bs2.ext E6).ext E7).ext E8) rfl rfl) ?_
    refine lx_set (want rfl) sz_24 (A1.at 3 rfl rfl) (t_agg rfl) rfl rfl rfl (((((((((BL1_22.ext E2).ext E3).ext E4).ext E5).ext Eb23).ne Es2 (by omega)).ext E6).ext E7).ext E8) (Nat.le_of_ble_eq_true rfl) ?_
    intro w15 Es3 Bs3
    have F15 := F14.set Es3 (by omega)
    have hzs3 := Es3.size
    refine lx_nil ?_
    refine wk_seq ?_
    refine wk_region ?_
    refine lx_value (want rfl) (mv_int rfl) ?_
    refine lx_value (want rfl) (rn_eql rfl rfl) ?_
    refine lx_dec (fun hz => ?_) (fun hz => ?_)
    ·
      refine lx_nil ?_
      refine wk_cond_t rfl ?_
      refine wk_seq ?_
      refine wk_region ?_
      refine lx_call (want rfl) (ent_func cf_21 args0) (awake_ct w15 ((((((((((BL1_800.ext E2).ext E3).ext E4).ext E5).ext Eb23).ne Es2 (by omega)).ext E6).ext E7).ext E8).ne Es3 (by omega))) ?_
      rintro _ w16 E9 rfl
      have F16 := F15.ext E9
      have hz9 := E9.size
      refine lx_value (want rfl) (as_bool rfl) ?_
      refine lx_nil ?_
      refine wk_ret ?_
      refine retR1 Tryd.results14 (.tmp (t_bool rfl)) F16 ?_
      exact rfl
    ·
      have hgo2 := left_go hV2 (by rw [hlen] at hz; omega)
      refine lx_nil ?_
      refine wk_cond_f rfl ?_
      refine wk_skip ?_
      refine wk_region ?_
      refine lx_value (want rfl) (mv_int hs1_7) ?_
      refine lx_value (want rfl) (rn_add rfl rfl (by omega)) ?_
      refine lx_value (want rfl) (as_int rfl) ?_
      refine lx_nil ?_
      exact ⟨rfl, ((((((((((((((((((((((((((((((((((((((((((((((((((((((((((((((((((((((((((A1.up rfl _).up rfl _).up rfl _).up rfl _).up rfl _).up rfl _).up rfl _).up rfl _).up rfl _).up rfl _).up rfl _).up rfl _).up rfl _).up rfl _).up rfl _).up rfl _).up rfl _).up rfl _).none _).up rfl _).up rfl _).up rfl _).up rfl _).up rfl _).up rfl _).up rfl _).up rfl _).up rfl _).up rfl _).up rfl _).up rfl _).up rfl _).up rfl _).up rfl _).up rfl _).up rfl _).up rfl _).up rfl _).up rfl _).up rfl _).up rfl _).up rfl _).up rfl _).up rfl _).up rfl _).up rfl _).up rfl _).up rfl _).up rfl _).up rfl _).up rfl _).up rfl _).up rfl _).up rfl _).up rfl _).up rfl _).up rfl _).up rfl _).up rfl _).up rfl _).up rfl _).up rfl _).up rfl _).up rfl _).up rfl _).up rfl _).up rfl _).up rfl _).none _).up rfl _).up rfl _).up rfl _).up rfl _).up rfl _), Fr.between F4 F15 (by omega), _, (by omega), i + 1, (rdB (xd % 4) ((xr % 8 + 1 : Nat) : Int) L L.length).1, sN, cN, rfl, rfl, ((((((((((BL1_800.ext E2).ext E3).ext E4).ext E5).ext Eb23).ne Es2 (by omega)).ext E6).ext E7).ext E8).ne Es3 (by omega)), ((((((((((BL1_21.ext E2).ext E3).ext E4).ext E5).ext Eb23).ne Es2 (by omega)).ext E6).ext E7).ext E8).ne Es3 (by omega)), Bs3, BufS.on hNB (Fr.trans (Fr.ext (Fr.ext (Fr.ext (Fr.trans (Fr.ext (Fr.refl (fun k => k = b23 ∨ k = b22) w9) Eb23) Es2 (fun k _ h => (.inl h))) E6) E7) E8) Es3 (fun k _ h => (.inr h))) (fun k hk hlt h => by have := hk.1; have := hk.2; (try dsimp only at h); omega) (fun k hk hlt => ⟨by omega, by have := hk.1; omega⟩), hVN, by rw [hlen]; omega⟩
  ·
    refine lx_value (want_if (j := 29) (d := 76) (x := false) (y := false) rfl rfl (by decide) rfl) (mv_bool rfl) ?_
    refine lx_skip (want_if (j := 32) (d := 79) (x := true) (y := false) rfl rfl (by decide) rfl) ?_
    refine lx_skip (want_if (j := 32) (d := 79) (x := true) (y := false) rfl rfl (by decide) rfl) ?_
    refine lx_skip (want_if (j := 32) (d := 79) (x := true) (y := false) rfl rfl (by decide) rfl) ?_
    refine lx_value (want_if (j := 29) (d := 76) (x := false) (y := false) rfl rfl (by decide) rfl) (pick_f rfl rfl) ?_
    refine lx_value (want rfl) (pick_f rfl rfl) ?_
    refine lx_nil ?_
    refine wk_cond_f rfl ?_
    refine wk_skip ?_
    refine wk_seq ?_
    refine wk_region ?_
    refine lx_value (want rfl) (rn_loadBlk ag_24 sz_24 rfl (((Bs2.ext E6).ext E7).ext E8) rfl rfl) ?_
    refine lx_set (want rfl) sz_24 (A1.at 3 rfl rfl) (t_agg rfl) rfl rfl rfl (((((((((BL1_22.ext E2).ext E3).ext E4).ext E5).ext Eb23).ne Es2 (by omega)).ext E6).ext E7).ext E8) (Nat.le_of_ble_eq_true rfl) ?_
    intro w15 Es4 Bs4
    have F17 := F14.set Es4 (by omega)
    have hzs4 := Es4.size
    refine lx_nil ?_
    refine wk_seq ?_
    refine wk_region ?_
    refine lx_value (want rfl) (mv_int rfl) ?_
    refine lx_value (want rfl) (rn_eql rfl rfl) ?_
    refine lx_dec (fun hz => ?_) (fun hz => ?_)
    ·
      refine lx_nil ?_
      refine wk_cond_t rfl ?_
      refine wk_seq ?_
      refine wk_region ?_
      refine lx_call (want rfl) (ent_func cf_21 args0) (awake_ct w15 ((((((((((BL1_800.ext E2).ext E3).ext E4).ext E5).ext Eb23).ne Es2 (by omega)).ext E6).ext E7).ext E8).ne Es4 (by omega))) ?_
      rintro _ w16 E10 rfl
      have F18 := F17.ext E10
      have hz10 := E10.size
      refine lx_value (want rfl) (as_bool rfl) ?_
      refine lx_nil ?_
      refine wk_ret ?_
      refine retR1 Tryd.results14 (.tmp (t_bool rfl)) F18 ?_
      exact rfl
    ·
      have hgo2 := left_go hV2 (by rw [hlen] at hz; omega)
      refine lx_nil ?_
      refine wk_cond_f rfl ?_
      refine wk_skip ?_
      refine wk_region ?_
      refine lx_value (want rfl) (mv_int hs1_7) ?_
      refine lx_value (want rfl) (rn_add rfl rfl (by omega)) ?_
      refine lx_value (want rfl) (as_int rfl) ?_
      refine lx_nil ?_
      exact ⟨rfl, ((((((((((((((((((((((((((((((((((((((((((((((((((((((((((((((((((((((((((A1.up rfl _).up rfl _).up rfl _).up rfl _).up rfl _).up rfl _).up rfl _).up rfl _).up rfl _).up rfl _).up rfl _).up rfl _).up rfl _).up rfl _).up rfl _).up rfl _).up rfl _).up rfl _).none _).up rfl _).up rfl _).up rfl _).up rfl _).up rfl _).up rfl _).up rfl _).up rfl _).up rfl _).up rfl _).up rfl _).up rfl _).up rfl _).up rfl _).up rfl _).up rfl _).up rfl _).up rfl _).up rfl _).up rfl _).up rfl _).up rfl _).up rfl _).up rfl _).up rfl _).up rfl _).up rfl _).up rfl _).up rfl _).up rfl _).up rfl _).up rfl _).up rfl _).up rfl _).up rfl _).up rfl _).up rfl _).up rfl _).up rfl _).up rfl _).up rfl _).up rfl _).up rfl _).up rfl _).up rfl _).up rfl _).up rfl _).up rfl _).up rfl _).none _).up rfl _).up rfl _).up rfl _).up rfl _).up rfl _), Fr.between F4 F17 (by omega), _, (by omega), i + 1, (rdB (xd % 4) ((xr % 8 + 1 : Nat) : Int) L L.length).1, sN, cN, rfl, rfl, ((((((((((BL1_800.ext E2).ext E3).ext E4).ext E5).ext Eb23).ne Es2 (by omega)).ext E6).ext E7).ext E8).ne Es4 (by omega)), ((((((((((BL1_21.ext E2).ext E3).ext E4).ext E5).ext Eb23).ne Es2 (by omega)).ext E6).ext E7).ext E8).ne Es4 (by omega)), Bs4, BufS.on hNB (Fr.trans (Fr.ext (Fr.ext (Fr.ext (Fr.trans (Fr.ext (Fr.refl (fun k => k = b23 ∨ k = b22) w9) Eb23) Es2 (fun k _ h => (.inl h))) E6) E7) E8) Es4 (fun k _ h => (.inr h))) (fun k hk hlt h => by have := hk.1; have := hk.2; (try dsimp only at h); omega) (fun k hk hlt => ⟨by omega, by have := hk.1; omega⟩), hVN, by rw [hlen]; omega⟩

end Go.Proofs.YtlfclnkoimfhmaaDoor

/- What functions compute: wired. -/
import Derived.Test.YtgnnegfnpgnbbaaGreatDoorHomesFacts
import Derived.Test.YtgnnegfnpgnbbaaGreatDoorHomesPre
import Derived.Test.YtgnnegfnpgnbbaaGreatDoorHomesWalk1
import Derived.Test.YtgnnegfnpgnbbaaGreatDoorHomesWalk12
import Derived.Test.YtgnnegfnpgnbbaaGreatDoorHomesWalk2
import Derived.Test.YtgnnegfnpgnbbaaGreatDoorHomesWalk3
set_option maxRecDepth 100000
set_option linter.unusedVariables false
set_option linter.unusedSimpArgs false
namespace Go.Proofs.YtgnnegfnpgnbbaaGreatDoor
open Go Go.RowKit Go.Mix Go.Eng
set_option maxHeartbeats 2000000 in
set_option maxRecDepth 100000 in
theorem wired_ct (F : Nat → Prop) (l : List Sg) (b : Nat) (g : Sg) (ss : Option Addr) (cs : Nat) (si : Option Addr) (ci : Nat) (hsm : smallG l = true) (hsi : smallI g.ins = true) (hsd : smallD g.st = true) (hS : Shaped l g) (hW : wiredB l g = true) (hst1 : ∀ x ∈ l, 1 ≤ x.st.length) (w0 : World) (hp : PrgO F w0 b l) (hg : GRd F w0 g ss si ci) (hF : ∀ k, F k → k < w0.heap.size) :
  CT Tryz.prog 126 [.agg #[.pointer (some ⟨b, 0, none⟩), .string g.nm, .int .i64 (g.ex : Nat), .slice ss g.st.length cs, .slice si g.ins.length ci]] w0 no (fun v _ => v = .bool true) := by
 have hg0 := hg
 obtain ⟨hgs, hgi, hgr⟩ := hg0
 have hsl := smallI_len hsi
 have hnl := nodesN_le g.ins
 obtain ⟨⟨fin, hfin, hfl⟩, hib, hown⟩ := wiredB_parts hW
 have hdl := smallD_len hsd
 have F0 := Fr.refl no w0
 refine ct_bodyM Tryz.func126 rfl Tryz.ntmps126 (Nat.le_of_ble_eq_true rfl) ?_
 refine wk_seq ?_
 refine wk_region ?_
 refine lx_new (want rfl) (rn_box (t_agg rfl)) ?_
 intro b1 w1 hb1 Eb1 B1 hlb1
 have F1 := F0.ext Eb1
 have hzb1 := Eb1.size
 refine lx_new (want rfl) (rn_alloc ze_4) ?_
 intro b2 w2 hb2 Eb2 B2 hlb2
 have F2 := F1.ext Eb2
 have hzb2 := Eb2.size
 refine lx_nil ?_
 refine wk_seq ?_
 refine wk_region ?_
 refine lx_makeMapL kD (want rfl) ?_
 intro b3 w3 hb3 Eb3 B3
 have F3 := F2.ext Eb3
 have hzb3 := Eb3.size
 have hlb3 := B3.lt
 refine lx_new (want rfl) (rn_alloc ze_214) ?_
 intro b4 w4 hb4 Eb4 B4 hlb4
 have F4 := F3.ext Eb4
 have hzb4 := Eb4.size
 refine lx_set (want rfl) sz_214 rfl (t_map rfl) rfl rfl rfl B4 (Nat.le_of_ble_eq_true rfl) ?_
 intro w5 Es1 Bs1
 have F5 := F4.set Es1 (by omega)
 have hzs1 := Es1.size
 refine lx_nil ?_
 refine wk_seq ?_
 refine wk_seq ?_
 refine wk_region ?_
 refine lx_value (want rfl) (rn_loadBlk ag_193 sz_193 rfl ((((B1.ext Eb2).ext Eb3).ext Eb4).ne Es1 (by omega)) rfl rfl) ?_
 refine lx_call (want rfl) (ent_func cf_148 (argsC (t_agg rfl) args0)) (goes_ct _ g ss cs si ci w5) ?_
 rintro _ w6 E1 ⟨bG, rfl, hBG, hbG⟩
 have F6 := F5.ext E1
 have hz1 := E1.size
 have hlbG := (hBG).lt
 refine lx_nil ?_
 refine wk_block ?_
 refine wk_abs ?_
 intro ρR1 hR1
 refine wk_range (ps := [22, 23]) ((hR1 21).trans rfl) cf_162 ?_
 intro fR1 db1 l1 w7 RC1 hRC1 hdb1 hl1 hsz1 ER1 HD1 HL1
 have F7 := F6.ext ER1
 have hzR1 := ER1.size
 have hlt1_l := (HL1).lt
 have hlt1_d := (HD1).lt
 refine CT.mono (goes1_ct l1 bG F _ g ss cs si ci hsi hsd (fun (i : List Go1) (w : World) => ∃ (acc : Acc), Fr no w0 w ∧ w7.heap.size ≤ w.heap.size ∧ Blk w b1 (cellsOf B1) 193 ∧ Blk w b2 (cellsOf B2) 4 ∧ MapL w b3 kD acc ∧ Blk w b4 (cellsOf Bs1) 214 ∧ Blk w bG (cellsOf hBG) 193 ∧ At w l1 (RC1 .ready none) ∧ At w db1 (.deferred (some [])) ∧ (scanG g i acc = some fin)) (fun _ => False) w7 ⟨[], F7, (by omega), ((((((B1.ext Eb2).ext Eb3).ext Eb4).ne Es1 (by omega)).ext E1).ext ER1), (((((B2.ext Eb3).ext Eb4).ne Es1 (by omega)).ext E1).ext ER1), ((((B3.ext Eb4).ne Es1 (by omega)).ext E1).ext ER1), ((Bs1.ext E1).ext ER1), (hBG.ext ER1), HL1, HD1, hfin⟩ (by rintro i w ⟨acc, FW1, hzW1, BL1_1, BL1_2, BL1_3, BL1_4, BL1_60, BL1_901, BL1_902, hsc⟩; exact ⟨BL1_60, hg.fr FW1 (fun _ _ h => h)⟩) (by rintro i w ⟨acc, FW1, hzW1, BL1_1, BL1_2, BL1_3, BL1_4, BL1_60, BL1_901, BL1_902, hsc⟩; exact Fr.nF F7 FW1 hzW1 hF) (by intro w h; exact h.elim) ?_) (fun _ _ h => h) ?_
 ·
  rintro xI1 iR1 w8 w9 s c hi1 ⟨acc, FW1, hzW1, BL1_1, BL1_2, BL1_3, BL1_4, BL1_60, BL1_901, BL1_902, hsc⟩ E1r
  have F8 := FW1.ext E1r
  have hz1r := E1r.size
  refine yd_round hRC1 (BL1_901.ext E1r) rfl ?_
  have FB := F8
  refine wk_seq ?_
  refine wk_region ?_
  refine lx_new (want rfl) (rn_alloc ze_219) ?_
  intro b5 w10 hb5 Eb5 B5 hlb5
  have F9 := F8.ext Eb5
  have hzb5 := Eb5.size
  refine lx_set (want rfl) sz_219 rfl rfl rfl rfl rfl B5 (Nat.le_of_ble_eq_true rfl) ?_
  intro w11 Es2 Bs2
  have F10 := F9.set Es2 (by omega)
  have hzs2 := Es2.size
  refine lx_nil ?_
  refine wk_region ?_
  refine lx_value (want rfl) (as_slice rfl) ?_
  refine lx_nil ?_
  refine ⟨rfl, (((BL1_901.ext E1r).ext Eb5).ne Es2 (by omega)), fun w12 E2 HBE2 => ?_⟩
  have F11 := F10.set E2 (by omega)
  have hz2 := E2.size
  obtain ⟨a1, hs1, hs2⟩ := scanG_cons hsc
  have hxl := hi1.2
  refine wk_block ?_
  refine wk_seq ?_
  refine wk_region ?_
  refine lx_value (want rfl) (mv_slice rfl) ?_
  refine lx_value (want rfl) (rn_len Tryz.underlying76 rfl) ?_
  refine lx_value (want rfl) (mv_int rfl) ?_
  refine lx_nil ?_
  refine wk_block ?_
  refine wk_loopA [6, 7, 8, 9, 10, 11, 26, 27, 28, 29, 30, 31, 32, 33, 34, 35, 36, 37, 38, 39, 40, 41, 42, 43, 44, 45, 46, 47, 48, 49, 50, 51, 52, 53, 54, 55, 56, 57, 58, 59, 60, 61, 62, 63, 64, 65, 66, 67, 68, 69, 70, 71, 72, 73, 74, 75, 76, 77, 78, 79, 80, 81, 82, 83, 84, 85, 86, 87, 88] (fun j => no j ∨ w0.heap.size ≤ j) (fun nM ρ w => ∃ (j : Nat) (ac : Acc), nM = xI1.2.length - j ∧ ρ 26 = .int .i64 j ∧ Blk w b1 (cellsOf BL1_1) 193 ∧ Blk w b2 (cellsOf BL1_2) 4 ∧ MapL w b3 kD ac ∧ Blk w b4 (cellsOf BL1_4) 214 ∧ Blk w bG (cellsOf BL1_60) 193 ∧ At w l1 (RC1 .busy none) ∧ At w db1 (.deferred (some [])) ∧ Blk w b5 (cellsOf Bs2) 219 ∧ (j ≤ xI1.2.length) ∧ (scanD g xI1.1 (xI1.2.drop j) (prevD xI1.2 j) ac = some a1)) _ ⟨0, acc, rfl, rfl, ((((BL1_1.ext E1r).ext Eb5).ne Es2 (by omega)).ne E2 (by omega)), ((((BL1_2.ext E1r).ext Eb5).ne Es2 (by omega)).ne E2 (by omega)), ((((BL1_3.ext E1r).ext Eb5).ne Es2 (by omega)).ne E2 (by omega)), ((((BL1_4.ext E1r).ext Eb5).ne Es2 (by omega)).ne E2 (by omega)), ((((BL1_60.ext E1r).ext Eb5).ne Es2 (by omega)).ne E2 (by omega)), HBE2, ((((BL1_902.ext E1r).ext Eb5).ne Es2 (by omega)).ne E2 (by omega)), (Bs2.ne E2 (by omega)), by omega, hs1⟩ ?_
  rintro n2 ρ2 w13 A2 EL2 ⟨j, ac, rfl, hs2_26, BL2_1, BL2_2, BL2_3, BL2_4, BL2_60, BL2_901, BL2_902, BL2_5, hj, hsd1⟩
  have F12 := F11.wide EL2
  have hzL2 := EL2.size
  refine wk_seq ?_
  refine wk_region ?_
  refine lx_value (want rfl) (rn_lss hs2_26 (A2.at 25 rfl rfl)) ?_
  refine lx_dec (fun hlt => ?_) (fun hlt => ?_)
  ·
   obtain ⟨d, hd⟩ := getx hlt
   have hdlt := (List.getElem?_eq_some_iff.1 hd).1
   obtain ⟨q, hq0⟩ := prev_ex hdlt
   have hsd0 := hsd1
   rw [drop_at hd] at hsd0
   obtain ⟨hgd0, hsd2⟩ := scanD_cons hsd0
   obtain ⟨x, hgd⟩ := goodD_parts hgd0
   have hgd1 := hgd.from_
   have hgd2 := hgd.lo
   have hgd3 := hgd.hi
   have hgd4 := hgd.pos
   have hgd5 := hgd.port
   have hib1 := insB_at hib hgd.at_
   have hdW := (Sl.old hi1.1 (ds_stab F) FB F12 (by omega) hF)
   obtain ⟨bx, ox, hsx, hFx, hcx⟩ := hdW j d hd
   subst hsx
   have hFxl := hF _ hFx
   obtain ⟨by_, oy, hsy, hFy, so, co, hcy, hco⟩ := hgi _ x hgd.at_
   subst hsy
   have hinl := (List.getElem?_eq_some_iff.1 hgd.at_).1
   refine lx_nil ?_
   refine wk_seq ?_
   refine wk_cond_t rfl ?_
   refine wk_skip ?_
   refine wk_seq ?_
   refine wk_block ?_
   refine wk_seq ?_
   refine wk_region ?_
   refine lx_value (want rfl) (mv_int hs2_26) ?_
   refine lx_value (want rfl) (rn_index _ Tryz.underlying76 sz_75 (A2.at 24 rfl rfl) hs2_26 rfl (by omega)) ?_
   refine lx_value (want rfl) (rn_load2 ag_75 sz_75 rfl (hcx 0 _ rfl) (hcx 1 _ rfl)) ?_
   refine lx_new (want rfl) (rn_alloc ze_75) ?_
   intro b6 w14 hb6 Eb6 B6 hlb6
   have F13 := F12.ext Eb6
   have hzb6 := Eb6.size
   refine lx_value (want rfl) (as_int rfl) ?_
   refine lx_set (want rfl) sz_75 rfl (t_agg rfl) rfl rfl rfl B6 (Nat.le_of_ble_eq_true rfl) ?_
   intro w15 Es3 Bs3
   have F14 := F13.set Es3 (by omega)
   have hzs3 := Es3.size
   refine lx_nil ?_
   refine wk_seq ?_
   refine wk_seq ?_
   refine wk_mix 23 (fun kS => match kS with | 10 => .val (.bool (decide (xI1.1.1 + 1 ≤ d.1 ∧ d.1 ≤ (g.ins.length : Int) - 1))) | 22 => .val (.int .i64 (befV q d)) | _ => .none) (by kernel_rfl) (by kernel_rfl) (by intro kS G hk; (try dsimp only at hk); (split at hk) <;> first | (cases hk; done) | (injection hk with hk; subst hk; exact ⟨by intro j hkj I v w w' hR hG; first | exact hG, fun ⟨_, _, _, _, hs⟩ => by (try dsimp only at hs); split at hs <;> cases hs⟩)) (by intro kS s y G hk; (try dsimp only at hk); split at hk <;> cases hk) ?_
   simp only [List.take_succ_cons, List.take_zero, List.take_nil, List.drop_succ_cons, List.drop_zero, List.drop_nil]
   refine mx_calm rfl (want rfl) (fun u1 eu1 fu1 => rn_fieldAddr fa_75_0 rfl) ?_
   refine mx_calm rfl (want rfl) (fun u2 eu2 fu2 => rn_load1Blk ag_3 rfl (Bs3.ext ((ext_drawn _).trans' eu2)) rfl) ?_
   refine mx_calm rfl (want rfl) (fun u3 eu3 fu3 => rn_fieldAddr fa_219_0 (A2.at 4 rfl rfl)) ?_
   refine mx_calm rfl (want rfl) (fun u4 eu4 fu4 => rn_load1Blk ag_3 rfl (((BL2_5.ext Eb6).ne Es3 (by omega)).ext ((ext_drawn _).trans' eu4)) rfl) ?_
   refine mx_calm rfl (want rfl) (fun u5 eu5 fu5 => rn_add rfl rfl (by omega)) ?_
   refine mx_calm rfl (want rfl) (fun u6 eu6 fu6 => rn_fieldAddr fa_193_1 (A2.at 1 rfl ((hR1 1).trans rfl))) ?_
   refine mx_calm rfl (want rfl) (fun u7 eu7 fu7 => rn_fieldAddr fa_181_3 rfl) ?_
   refine mx_calm rfl (want rfl) (fun u8 eu8 fu8 => rn_load1Blk ag_33 rfl (((BL2_1.ext Eb6).ne Es3 (by omega)).ext ((ext_drawn _).trans' eu8)) rfl) ?_
   refine mx_calm rfl (want rfl) (fun u9 eu9 fu9 => rn_len Tryz.underlying33 rfl) ?_
   refine mx_calm rfl (want rfl) (fun u10 eu10 fu10 => rn_sub rfl rfl (by omega)) ?_
   refine mx_val rfl (want rfl) (fun u11 eu11 fu11 => do_call (ent_func cf_139 (argsC (t_int rfl) (argsC (t_int rfl) (argsC (t_int rfl) args0)))) (kwithin_ct _ _ _ u11) (fun _ _ E h => ⟨E, h⟩)) ?_
   refine mx_b_t ((decide_eq_true (by omega))) ?_
   refine mx_calm rfl (want rfl) (fun u12 eu12 fu12 => rn_not rfl) ?_
   refine mx_calm rfl (want rfl) (fun u13 eu13 fu13 => mv_bool rfl) ?_
   refine mx_calm rfl (want_if (j := 12) (d := 43) (x := false) (y := false) rfl rfl (by decide) rfl) (fun u14 eu14 fu14 => mv_int rfl) ?_
   refine mx_calm rfl (want_if (j := 12) (d := 43) (x := false) (y := false) rfl rfl (by decide) rfl) (fun u15 eu15 fu15 => rn_gtr rfl rfl) ?_
   refine mx_dec (fun hj0 => ?_) (fun hj0 => ?_)
   ·
    have hq := hq0 (by omega)
    have hqp := hgd.prev q (by unfold prevD; rw [if_neg (by omega)]; exact hq)
    refine mx_calm rfl (want_if (j := 12) (d := 43) (x := false) (y := false) rfl rfl (by decide) rfl) (fun u16 eu16 fu16 => mv_bool rfl) ?_
    refine mx_calm rfl (want_if (j := 15) (d := 46) (x := true) (y := true) rfl rfl (by decide) rfl) (fun u17 eu17 fu17 => mv_slice (A2.at 5 rfl rfl)) ?_
    refine mx_calm rfl (want_if (j := 15) (d := 46) (x := true) (y := true) rfl rfl (by decide) rfl) (fun u18 eu18 fu18 => mv_int rfl) ?_
    refine mx_calm rfl (want_if (j := 15) (d := 46) (x := true) (y := true) rfl rfl (by decide) rfl) (fun u19 eu19 fu19 => rn_sub rfl rfl (by omega)) ?_
    refine mx_calm rfl (want_if (j := 15) (d := 46) (x := true) (y := true) rfl rfl (by decide) rfl) (fun u20 eu20 fu20 => rn_index (j - 1) Tryz.underlying76 sz_75 rfl rfl (by omega) (by omega)) ?_
    refine mx_calm rfl (want_if (j := 15) (d := 46) (x := true) (y := true) rfl rfl (by decide) rfl) (fun u21 eu21 fu21 => rn_load2 ag_75 sz_75 rfl ((((Fr.trans (Fr.ext (Fr.refl (fun k => k = b6) w13) Eb6) Es3 (fun k _ h => h))).ext ((ext_drawn _).trans' eu21)).cell (fun h => by have h : bx = _ := h; omega) (hdW.get hq 0 _ rfl)) ((((Fr.trans (Fr.ext (Fr.refl (fun k => k = b6) w13) Eb6) Es3 (fun k _ h => h))).ext ((ext_drawn _).trans' eu21)).cell (fun h => by have h : bx = _ := h; omega) (hdW.get hq 1 _ rfl))) ?_
    refine mx_calm rfl (want_if (j := 15) (d := 46) (x := true) (y := true) rfl rfl (by decide) rfl) (fun u22 eu22 fu22 => rn_loadBlk ag_75 sz_75 rfl (Bs3.ext ((ext_drawn _).trans' eu22)) rfl rfl) ?_
    refine mx_val rfl (want_if (j := 15) (d := 46) (x := true) (y := true) rfl rfl (by decide) rfl) (fun u23 eu23 fu23 => do_call (ent_func cf_149 (argsC (t_agg rfl) (argsC (t_agg rfl) args0))) (before_ct q d hqp.1 hgd4 u23) (fun _ _ E h => ⟨E, h⟩)) ?_
    refine mx_nil (fun w16 E3' H1 HS => ?_)
    have E3 := (ext_drawn _).trans' E3'
    have F15 := F14.ext E3
    have hz3 := E3.size
    refine lx_value (want_if (j := 15) (d := 46) (x := true) (y := true) rfl rfl (by decide) rfl) (rn_geq rfl rfl) ?_
    refine lx_dec_f ((befV_less hqp.2)) ?_
    refine lx_value (want_if (j := 12) (d := 43) (x := false) (y := false) rfl rfl (by decide) rfl) (pick_t rfl rfl) ?_
    refine lx_value (want rfl) (pick_f rfl rfl) ?_
    refine lx_nil ?_
    refine wk_cond_f rfl ?_
    refine wk_skip ?_
    refine wk_seq ?_
    refine wk_mix 14 (fun kS => match kS with | 9 => .val (.tuple #[.int .i64 (insP x), .int .i64 (outP l x)]) | _ => .none) (by kernel_rfl) (by kernel_rfl) (by intro kS G hk; (try dsimp only at hk); (split at hk) <;> first | (cases hk; done) | (injection hk with hk; subst hk; exact ⟨by intro j hkj I v w w' hR hG; first | exact hG, fun ⟨_, _, _, _, hs⟩ => by (try dsimp only at hs); split at hs <;> cases hs⟩)) (by intro kS s y G hk; (try dsimp only at hk); split at hk <;> cases hk) ?_
    simp only [List.take_succ_cons, List.take_zero, List.take_nil, List.drop_succ_cons, List.drop_zero, List.drop_nil]
    refine mx_calm rfl (want rfl) (fun u24 eu24 fu24 => rn_fieldAddr fa_193_0 (A2.at 1 rfl ((hR1 1).trans rfl))) ?_
    refine mx_calm rfl (want rfl) (fun u25 eu25 fu25 => rn_load1Blk ag_182 rfl ((((BL2_1.ext Eb6).ne Es3 (by omega)).ext E3).ext ((ext_drawn _).trans' eu25)) rfl) ?_
    refine mx_calm rfl (want rfl) (fun u26 eu26 fu26 => rn_fieldAddr fa_193_1 (A2.at 1 rfl ((hR1 1).trans rfl))) ?_
    refine mx_calm rfl (want rfl) (fun u27 eu27 fu27 => rn_fieldAddr fa_181_3 rfl) ?_
    refine mx_calm rfl (want rfl) (fun u28 eu28 fu28 => rn_load1Blk ag_33 rfl ((((BL2_1.ext Eb6).ne Es3 (by omega)).ext E3).ext ((ext_drawn _).trans' eu28)) rfl) ?_
    refine mx_calm rfl (want rfl) (fun u29 eu29 fu29 => rn_fieldAddr fa_75_0 rfl) ?_
    refine mx_calm rfl (want rfl) (fun u30 eu30 fu30 => rn_load1Blk ag_3 rfl ((Bs3.ext E3).ext ((ext_drawn _).trans' eu30)) rfl) ?_
    refine mx_calm rfl (want rfl) (fun u31 eu31 fu31 => rn_index d.1.toNat Tryz.underlying33 sz_73 rfl rfl (by omega) hinl) ?_
    refine mx_calm rfl (want rfl) (fun u32 eu32 fu32 => rn_loadN ag_73 sz_73 rfl rfl (hcy.fr (F15.ext ((ext_drawn _).trans' eu32)) (fun h => h))) ?_
    refine mx_val rfl (want rfl) (fun u33 eu33 fu33 => do_call (ent_func cf_147 (argsC (t_pointer rfl) (argsC (t_agg rfl) args0))) (kports_ct F l b x so co hsm (all_at hS.ok hgd.at_) u33 (hp.fr (F15.ext ((ext_drawn _).trans' eu33)) (fun _ _ h => h))) (fun _ _ E h => ⟨E, h⟩)) ?_
    refine mx_calm rfl (want rfl) (fun u34 eu34 fu34 => mv_tuple rfl) ?_
    refine mx_calm rfl (want rfl) (fun u35 eu35 fu35 => rn_extract rfl rfl) ?_
    refine mx_calm rfl (want rfl) (fun u36 eu36 fu36 => rn_extract rfl rfl) ?_
    refine mx_calm rfl (want rfl) (fun u37 eu37 fu37 => as_int rfl) ?_
    refine mx_nil (fun w17 E4' H2 HS => ?_)
    have E4 := (ext_drawn _).trans' E4'
    have F16 := F15.ext E4
    have hz4 := E4.size
    refine lx_value (want rfl) (as_int rfl) ?_
    refine lx_nil ?_
    refine wk_seq ?_
    refine wk_seq ?_
    refine wk_region ?_
    refine lx_value (want rfl) (rn_load1Blk ag_214 (A2.at 3 rfl ((hR1 3).trans rfl)) ((((BL2_4.ext Eb6).ne Es3 (by omega)).ext E3).ext E4) rfl) ?_
    refine lx_value (want rfl) (rn_loadBlk ag_75 sz_75 rfl ((Bs3.ext E3).ext E4) rfl rfl) ?_
    refine lx_value (v := .tuple #[.agg #[.int .i64 0, .int .i64 0], .bool false]) (want rfl) ((by rw [← look_none (.agg #[.int .i64 0, .int .i64 0]) hgd.new]; exact rn_lookLOk (k := d) mg_214 rfl rfl ((((BL2_3.ext Eb6).ne Es3 (by omega)).ext E3).ext E4))) ?_
    refine lx_value (want rfl) (mv_tuple rfl) ?_
    refine lx_value (want rfl) (rn_extract rfl rfl) ?_
    refine lx_value (want rfl) (rn_extract rfl rfl) ?_
    refine lx_new (want rfl) (rn_alloc ze_219) ?_
    intro b7 w18 hb7 Eb7 B7 hlb7
    have F17 := F16.ext Eb7
    have hzb7 := Eb7.size
    refine lx_set (want rfl) sz_219 rfl (t_agg rfl) rfl rfl rfl B7 (Nat.le_of_ble_eq_true rfl) ?_
    intro w19 Es4 Bs4
    have F18 := F17.set Es4 (by omega)
    have hzs4 := Es4.size
    refine lx_value (want rfl) (as_bool rfl) ?_
    refine lx_nil ?_
    refine wk_seq ?_
    refine wk_region ?_
    refine lx_value (want rfl) (mv_bool rfl) ?_
    refine lx_value (want rfl) (mv_bool rfl) ?_
    refine lx_value (want_if (j := 1) (d := 77) (x := false) (y := false) rfl rfl (by decide) rfl) (rn_fieldAddr fa_75_1 rfl) ?_
    refine lx_value (want_if (j := 1) (d := 77) (x := false) (y := false) rfl rfl (by decide) rfl) (rn_load1Blk ag_3 rfl ((((Bs3.ext E3).ext E4).ext Eb7).ne Es4 (by omega)) rfl) ?_
    refine lx_value (want_if (j := 1) (d := 77) (x := false) (y := false) rfl rfl (by decide) rfl) (mv_int rfl) ?_
    refine lx_value (want_if (j := 1) (d := 77) (x := false) (y := false) rfl rfl (by decide) rfl) (rn_sub rfl rfl (by omega)) ?_
    refine lx_call (want_if (j := 1) (d := 77) (x := false) (y := false) rfl rfl (by decide) rfl) (ent_func cf_139 (argsC (t_int rfl) (argsC (t_int rfl) (argsC (t_int rfl) args0)))) (kwithin_ct _ _ _ w19) ?_
    rintro _ w20 E5 rfl
    have F19 := F18.ext E5
    have hz5 := E5.size
    refine lx_b_t ((decide_eq_true (by omega))) ?_
    refine lx_value (want_if (j := 1) (d := 77) (x := false) (y := false) rfl rfl (by decide) rfl) (rn_not rfl) ?_
    refine lx_value (want rfl) (pick_f rfl rfl) ?_
    refine lx_nil ?_
    refine wk_cond_f rfl ?_
    refine wk_skip ?_
    refine wk_region ?_
    refine lx_value (want rfl) (rn_load1Blk ag_214 (A2.at 3 rfl ((hR1 3).trans rfl)) (((((((BL2_4.ext Eb6).ne Es3 (by omega)).ext E3).ext E4).ext Eb7).ne Es4 (by omega)).ext E5) rfl) ?_
    refine lx_value (want rfl) (rn_loadBlk ag_75 sz_75 rfl (((((Bs3.ext E3).ext E4).ext Eb7).ne Es4 (by omega)).ext E5) rfl rfl) ?_
    refine lx_value (want rfl) (rn_loadBlk ag_219 sz_219 (A2.at 4 rfl rfl) (((((((BL2_5.ext Eb6).ne Es3 (by omega)).ext E3).ext E4).ext Eb7).ne Es4 (by omega)).ext E5) rfl rfl) ?_
    refine lx_updL (want rfl) mg_214 rfl (show _ = kD d from rfl) (t_agg rfl) (((((((BL2_3.ext Eb6).ne Es3 (by omega)).ext E3).ext E4).ext Eb7).ne Es4 (by omega)).ext E5) hgd.new ?_
    intro w21 Em1 HMEm1
    have F20 := F19.set Em1 (by omega)
    have hzm1 := Em1.size
    refine lx_nil ?_
    refine wk_region ?_
    refine lx_value (want rfl) (rn_add hs2_26 rfl (by omega)) ?_
    refine lx_value (want rfl) (mv_int rfl) ?_
    refine lx_nil ?_
    exact ⟨rfl, ((((((((((((((((((((((((((((((((((((((((((((((((((((((((((((((((((((((((A2.up rfl _).up rfl _).up rfl _).up rfl _).up rfl _).up rfl _).none _).up rfl _).up rfl _).up rfl _).up rfl _).up rfl _).up rfl _).up rfl _).up rfl _).up rfl _).up rfl _).up rfl _).up rfl _).up rfl _).up rfl _).up rfl _).up rfl _).up rfl _).up rfl _).up rfl _).up rfl _).up rfl _).up rfl _).up rfl _).up rfl _).up rfl _).up rfl _).up rfl _).up rfl _).up rfl _).up rfl _).up rfl _).up rfl _).up rfl _).up rfl _).up rfl _).up rfl _).up rfl _).up rfl _).up rfl _).up rfl _).up rfl _).up rfl _).up rfl _).up rfl _).up rfl _).up rfl _).up rfl _).up rfl _).none _).up rfl _).up rfl _).up rfl _).up rfl _).up rfl _).up rfl _).up rfl _).up rfl _).up rfl _).up rfl _).up rfl _).up rfl _).up rfl _).none _).up rfl _).up rfl _), Fr.between F11 F20 (by omega), _, (by omega), j + 1, (ac ++ [(d, kD xI1.1)]), rfl, rfl, ((((((((BL2_1.ext Eb6).ne Es3 (by omega)).ext E3).ext E4).ext Eb7).ne Es4 (by omega)).ext E5).ne Em1 (by omega)), ((((((((BL2_2.ext Eb6).ne Es3 (by omega)).ext E3).ext E4).ext Eb7).ne Es4 (by omega)).ext E5).ne Em1 (by omega)), HMEm1, ((((((((BL2_4.ext Eb6).ne Es3 (by omega)).ext E3).ext E4).ext Eb7).ne Es4 (by omega)).ext E5).ne Em1 (by omega)), ((((((((BL2_60.ext Eb6).ne Es3 (by omega)).ext E3).ext E4).ext Eb7).ne Es4 (by omega)).ext E5).ne Em1 (by omega)), ((((((((BL2_901.ext Eb6).ne Es3 (by omega)).ext E3).ext E4).ext Eb7).ne Es4 (by omega)).ext E5).ne Em1 (by omega)), ((((((((BL2_902.ext Eb6).ne Es3 (by omega)).ext E3).ext E4).ext Eb7).ne Es4 (by omega)).ext E5).ne Em1 (by omega)), ((((((((BL2_5.ext Eb6).ne Es3 (by omega)).ext E3).ext E4).ext Eb7).ne Es4 (by omega)).ext E5).ne Em1 (by omega)), by omega, (by rw [prevD_step hd]; exact hsd2)⟩
   ·
    refine mx_calm rfl (want_if (j := 12) (d := 43) (x := false) (y := false) rfl rfl (by decide) rfl) (fun u38 eu38 fu38 => mv_bool rfl) ?_
    refine mx_skip (want_if (j := 15) (d := 46) (x := true) (y := false) rfl rfl (by decide) rfl) ?_
    refine mx_skip (want_if (j := 15) (d := 46) (x := true) (y := false) rfl rfl (by decide) rfl) ?_
    refine mx_skip (want_if (j := 15) (d := 46) (x := true) (y := false) rfl rfl (by decide) rfl) ?_
    refine mx_skip (want_if (j := 15) (d := 46) (x := true) (y := false) rfl rfl (by decide) rfl) ?_
    refine mx_skip (want_if (j := 15) (d := 46) (x := true) (y := false) rfl rfl (by decide) rfl) ?_
    refine mx_skip (want_if (j := 15) (d := 46) (x := true) (y := false) rfl rfl (by decide) rfl) ?_
    refine mx_skip (want_if (j := 15) (d := 46) (x := true) (y := false) rfl rfl (by decide) rfl) ?_
    refine mx_nil (fun w16 E6' H3 HS => ?_)
    have E6 := (ext_drawn _).trans' E6'
    have F21 := F14.ext E6
    have hz6 := E6.size
    refine lx_skip (want_if (j := 15) (d := 46) (x := true) (y := false) rfl rfl (by decide) rfl) ?_
    refine lx_value (want_if (j := 12) (d := 43) (x := false) (y := false) rfl rfl (by decide) rfl) (pick_f rfl rfl) ?_
    refine lx_value (want rfl) (pick_f rfl rfl) ?_
    refine lx_nil ?_
    refine wk_cond_f rfl ?_
    refine wk_skip ?_
    refine wk_seq ?_
    refine wk_mix 14 (fun kS => match kS with | 9 => .val (.tuple #[.int .i64 (insP x), .int .i64 (outP l x)]) | _ => .none) (by kernel_rfl) (by kernel_rfl) (by intro kS G hk; (try dsimp only at hk); (split at hk) <;> first | (cases hk; done) | (injection hk with hk; subst hk; exact ⟨by intro j hkj I v w w' hR hG; first | exact hG, fun ⟨_, _, _, _, hs⟩ => by (try dsimp only at hs); split at hs <;> cases hs⟩)) (by intro kS s y G hk; (try dsimp only at hk); split at hk <;> cases hk) ?_
    simp only [List.take_succ_cons, List.take_zero, List.take_nil, List.drop_succ_cons, List.drop_zero, List.drop_nil]
    refine mx_calm rfl (want rfl) (fun u39 eu39 fu39 => rn_fieldAddr fa_193_0 (A2.at 1 rfl ((hR1 1).trans rfl))) ?_
    refine mx_calm rfl (want rfl) (fun u40 eu40 fu40 => rn_load1Blk ag_182 rfl ((((BL2_1.ext Eb6).ne Es3 (by omega)).ext E6).ext ((ext_drawn _).trans' eu40)) rfl) ?_
    refine mx_calm rfl (want rfl) (fun u41 eu41 fu41 => rn_fieldAddr fa_193_1 (A2.at 1 rfl ((hR1 1).trans rfl))) ?_
    refine mx_calm rfl (want rfl) (fun u42 eu42 fu42 => rn_fieldAddr fa_181_3 rfl) ?_
    refine mx_calm rfl (want rfl) (fun u43 eu43 fu43 => rn_load1Blk ag_33 rfl ((((BL2_1.ext Eb6).ne Es3 (by omega)).ext E6).ext ((ext_drawn _).trans' eu43)) rfl) ?_
    refine mx_calm rfl (want rfl) (fun u44 eu44 fu44 => rn_fieldAddr fa_75_0 rfl) ?_
    refine mx_calm rfl (want rfl) (fun u45 eu45 fu45 => rn_load1Blk ag_3 rfl ((Bs3.ext E6).ext ((ext_drawn _).trans' eu45)) rfl) ?_
    refine mx_calm rfl (want rfl) (fun u46 eu46 fu46 => rn_index d.1.toNat Tryz.underlying33 sz_73 rfl rfl (by omega) hinl) ?_
    refine mx_calm rfl (want rfl) (fun u47 eu47 fu47 => rn_loadN ag_73 sz_73 rfl rfl (hcy.fr (F21.ext ((ext_drawn _).trans' eu47)) (fun h => h))) ?_
    refine mx_val rfl (want rfl) (fun u48 eu48 fu48 => do_call (ent_func cf_147 (argsC (t_pointer rfl) (argsC (t_agg rfl) args0))) (kports_ct F l b x so co hsm (all_at hS.ok hgd.at_) u48 (hp.fr (F21.ext ((ext_drawn _).trans' eu48)) (fun _ _ h => h))) (fun _ _ E h => ⟨E, h⟩)) ?_
    refine mx_calm rfl (want rfl) (fun u49 eu49 fu49 => mv_tuple rfl) ?_
    refine mx_calm rfl (want rfl) (fun u50 eu50 fu50 => rn_extract rfl rfl) ?_
    refine mx_calm rfl (want rfl) (fun u51 eu51 fu51 => rn_extract rfl rfl) ?_
    refine mx_calm rfl (want rfl) (fun u52 eu52 fu52 => as_int rfl) ?_
    refine mx_nil (fun w17 E7' H4 HS => ?_)
    have E7 := (ext_drawn _).trans' E7'
    have F22 := F21.ext E7
    have hz7 := E7.size
    refine lx_value (want rfl) (as_int rfl) ?_
    refine lx_nil ?_
    refine wk_seq ?_
    refine wk_seq ?_
    refine wk_region ?_
    refine lx_value (want rfl) (rn_load1Blk ag_214 (A2.at 3 rfl ((hR1 3).trans rfl)) ((((BL2_4.ext Eb6).ne Es3 (by omega)).ext E6).ext E7) rfl) ?_
    refine lx_value (want rfl) (rn_loadBlk ag_75 sz_75 rfl ((Bs3.ext E6).ext E7) rfl rfl) ?_
    refine lx_value (v := .tuple #[.agg #[.int .i64 0, .int .i64 0], .bool false]) (want rfl) ((by rw [← look_none (.agg #[.int .i64 0, .int .i64 0]) hgd.new]; exact rn_lookLOk (k := d) mg_214 rfl rfl ((((BL2_3.ext Eb6).ne Es3 (by omega)).ext E6).ext E7))) ?_
    refine lx_value (want rfl) (mv_tuple rfl) ?_
    refine lx_value (want rfl) (rn_extract rfl rfl) ?_
    refine lx_value (want rfl) (rn_extract rfl rfl) ?_
    refine lx_new (want rfl) (rn_alloc ze_219) ?_
    intro b8 w18 hb8 Eb8 B8 hlb8
    have F23 := F22.ext Eb8
    have hzb8 := Eb8.size
    refine lx_set (want rfl) sz_219 rfl (t_agg rfl) rfl rfl rfl B8 (Nat.le_of_ble_eq_true rfl) ?_
    intro w19 Es5 Bs5
    have F24 := F23.set Es5 (by omega)
    have hzs5 := Es5.size
    refine lx_value (want rfl) (as_bool rfl) ?_
    refine lx_nil ?_
    refine wk_seq ?_
    refine wk_region ?_
    refine lx_value (want rfl) (mv_bool rfl) ?_
    refine lx_value (want rfl) (mv_bool rfl) ?_
    refine lx_value (want_if (j := 1) (d := 77) (x := false) (y := false) rfl rfl (by decide) rfl) (rn_fieldAddr fa_75_1 rfl) ?_
    refine lx_value (want_if (j := 1) (d := 77) (x := false) (y := false) rfl rfl (by decide) rfl) (rn_load1Blk ag_3 rfl ((((Bs3.ext E6).ext E7).ext Eb8).ne Es5 (by omega)) rfl) ?_
    refine lx_value (want_if (j := 1) (d := 77) (x := false) (y := false) rfl rfl (by decide) rfl) (mv_int rfl) ?_
    refine lx_value (want_if (j := 1) (d := 77) (x := false) (y := false) rfl rfl (by decide) rfl) (rn_sub rfl rfl (by omega)) ?_
    refine lx_call (want_if (j := 1) (d := 77) (x := false) (y := false) rfl rfl (by decide) rfl) (ent_func cf_139 (argsC (t_int rfl) (argsC (t_int rfl) (argsC (t_int rfl) args0)))) (kwithin_ct _ _ _ w19) ?_
    rintro _ w20 E8 rfl
    have F25 := F24.ext E8
    have hz8 := E8.size
    refine lx_b_t ((decide_eq_true (by omega))) ?_
    refine lx_value (want_if (j := 1) (d := 77) (x := false) (y := false) rfl rfl (by decide) rfl) (rn_not rfl) ?_
    refine lx_value (want rfl) (pick_f rfl rfl) ?_
    refine lx_nil ?_
    refine wk_cond_f rfl ?_
    refine wk_skip ?_
    refine wk_region ?_
    refine lx_value (want rfl) (rn_load1Blk ag_214 (A2.at 3 rfl ((hR1 3).trans rfl)) (((((((BL2_4.ext Eb6).ne Es3 (by omega)).ext E6).ext E7).ext Eb8).ne Es5 (by omega)).ext E8) rfl) ?_
    refine lx_value (want rfl) (rn_loadBlk ag_75 sz_75 rfl (((((Bs3.ext E6).ext E7).ext Eb8).ne Es5 (by omega)).ext E8) rfl rfl) ?_
    refine lx_value (want rfl) (rn_loadBlk ag_219 sz_219 (A2.at 4 rfl rfl) (((((((BL2_5.ext Eb6).ne Es3 (by omega)).ext E6).ext E7).ext Eb8).ne Es5 (by omega)).ext E8) rfl rfl) ?_
    refine lx_updL (want rfl) mg_214 rfl (show _ = kD d from rfl) (t_agg rfl) (((((((BL2_3.ext Eb6).ne Es3 (by omega)).ext E6).ext E7).ext Eb8).ne Es5 (by omega)).ext E8) hgd.new ?_
    intro w21 Em2 HMEm2
    have F26 := F25.set Em2 (by omega)
    have hzm2 := Em2.size
    refine lx_nil ?_
    refine wk_region ?_
    refine lx_value (want rfl) (rn_add hs2_26 rfl (by omega)) ?_
    refine lx_value (want rfl) (mv_int rfl) ?_
    refine lx_nil ?_
    exact ⟨rfl, ((((((((((((((((((((((((((((((((((((((((((((((((((((((((((((((((((((((((A2.up rfl _).up rfl _).up rfl _).up rfl _).up rfl _).up rfl _).none _).up rfl _).up rfl _).up rfl _).up rfl _).up rfl _).up rfl _).up rfl _).up rfl _).up rfl _).up rfl _).up rfl _).up rfl _).up rfl _).up rfl _).up rfl _).up rfl _).up rfl _).up rfl _).up rfl _).up rfl _).up rfl _).up rfl _).up rfl _).up rfl _).up rfl _).up rfl _).up rfl _).up rfl _).up rfl _).up rfl _).up rfl _).up rfl _).up rfl _).up rfl _).up rfl _).up rfl _).up rfl _).up rfl _).up rfl _).up rfl _).up rfl _).up rfl _).up rfl _).up rfl _).up rfl _).up rfl _).up rfl _).up rfl _).none _).up rfl _).up rfl _).up rfl _).up rfl _).up rfl _).up rfl _).up rfl _).up rfl _).up rfl _).up rfl _).up rfl _).up rfl _).up rfl _).none _).up rfl _).up rfl _), Fr.between F11 F26 (by omega), _, (by omega), j + 1, (ac ++ [(d, kD xI1.1)]), rfl, rfl, ((((((((BL2_1.ext Eb6).ne Es3 (by omega)).ext E6).ext E7).ext Eb8).ne Es5 (by omega)).ext E8).ne Em2 (by omega)), ((((((((BL2_2.ext Eb6).ne Es3 (by omega)).ext E6).ext E7).ext Eb8).ne Es5 (by omega)).ext E8).ne Em2 (by omega)), HMEm2, ((((((((BL2_4.ext Eb6).ne Es3 (by omega)).ext E6).ext E7).ext Eb8).ne Es5 (by omega)).ext E8).ne Em2 (by omega)), ((((((((BL2_60.ext Eb6).ne Es3 (by omega)).ext E6).ext E7).ext Eb8).ne Es5 (by omega)).ext E8).ne Em2 (by omega)), ((((((((BL2_901.ext Eb6).ne Es3 (by omega)).ext E6).ext E7).ext Eb8).ne Es5 (by omega)).ext E8).ne Em2 (by omega)), ((((((((BL2_902.ext Eb6).ne Es3 (by omega)).ext E6).ext E7).ext Eb8).ne Es5 (by omega)).ext E8).ne Em2 (by omega)), ((((((((BL2_5.ext Eb6).ne Es3 (by omega)).ext E6).ext E7).ext Eb8).ne Es5 (by omega)).ext E8).ne Em2 (by omega)), by omega, (by rw [prevD_step hd]; exact hsd2)⟩
  ·
   refine lx_nil ?_
   refine wk_seq ?_
   refine wk_cond_f rfl ?_
   refine wk_exit ?_
   refine ⟨BL2_901, fun w14 E9 HRE9 => ?_⟩
   have F27 := F12.set E9 (by omega)
   have hz9 := E9.size
   exact ⟨(by omega), (show Nx _ _ true from ⟨ac, F27, (by omega), (BL2_1.ne E9 (by omega)), (BL2_2.ne E9 (by omega)), (BL2_3.ne E9 (by omega)), (BL2_4.ne E9 (by omega)), (BL2_60.ne E9 (by omega)), HRE9, (BL2_902.ne E9 (by omega)), (by rw [drop_end hlt] at hsd1; obtain rfl := Option.some.inj hsd1; exact hs2)⟩)⟩
 ·
  rintro v w9 - (⟨w8, ⟨acc, FW1, hzW1, BL1_1, BL1_2, BL1_3, BL1_4, BL1_60, BL1_901, BL1_902, hsc⟩, E1e⟩ | ⟨w8, hf, E1e⟩)
  ·
   have F28 := FW1.ext E1e
   have hz1e := E1e.size
   refine .inl ⟨(BL1_901.ext E1e), fun w10 E1f => ?_⟩
   have F29 := F28.set E1f (by omega)
   have hz1f := E1f.size
   have hae : acc = fin := Option.some.inj hsc
   refine wk_seq ?_
   refine wk_region ?_
   refine lx_value (want rfl) (as_int rfl) ?_
   refine lx_nil ?_
   refine wk_seq ?_
   refine wk_seq ?_
   refine wk_region ?_
   refine lx_value (want rfl) (rn_fieldAddr fa_193_1 ((hR1 1).trans rfl)) ?_
   refine lx_value (want rfl) (rn_fieldAddr fa_181_3 rfl) ?_
   refine lx_value (want rfl) (rn_load1Blk ag_33 rfl ((BL1_1.ext E1e).ne E1f (by omega)) rfl) ?_
   refine lx_value (want rfl) (rn_len Tryz.underlying33 rfl) ?_
   refine lx_value (want rfl) (mv_int rfl) ?_
   refine lx_nil ?_
   refine wk_block ?_
   refine wk_loopA [12, 14, 15, 16, 93, 94, 95, 96, 97, 98, 99, 100, 101, 102, 103, 104, 105, 106, 107] no (fun nM ρ w => ∃ (i : Nat), nM = g.ins.length - i ∧ ρ 12 = .int .i64 (sumP (g.ins.take i)) ∧ ρ 93 = .int .i64 i ∧ (i ≤ g.ins.length)) _ ⟨0, rfl, rfl, rfl, by omega⟩ ?_
   rintro n3 ρ3 w11 A3 EL3 ⟨i, rfl, hs3_12, hs3_93, hi⟩
   have F30 := F29.ext EL3
   have hzL3 := EL3.size
   refine wk_seq ?_
   refine wk_region ?_
   refine lx_value (want rfl) (rn_lss hs3_93 (A3.at 92 rfl rfl)) ?_
   refine lx_dec (fun hlt1 => ?_) (fun hlt1 => ?_)
   ·
    obtain ⟨x, hx⟩ := getx hlt1
    have hib1 := insB_at hib hx
    have hb1 := sumP_bd hib i
    obtain ⟨by_, oy, hsy, hFy, so, co, hcy, hco⟩ := hgi _ x hx
    subst hsy
    refine lx_nil ?_
    refine wk_seq ?_
    refine wk_cond_t rfl ?_
    refine wk_skip ?_
    refine wk_seq ?_
    refine wk_block ?_
    refine wk_seq ?_
    refine wk_region ?_
    refine lx_value (want rfl) (rn_index _ Tryz.underlying33 sz_73 (A3.at 91 rfl rfl) hs3_93 rfl (by omega)) ?_
    refine lx_value (want rfl) (rn_loadN ag_73 sz_73 rfl rfl (hcy.fr F30 (fun h => h))) ?_
    refine lx_new (want rfl) (rn_alloc ze_73) ?_
    intro b9 w12 hb9 Eb9 B9 hlb9
    have F31 := F30.ext Eb9
    have hzb9 := Eb9.size
    refine lx_set (want rfl) sz_73 rfl (t_agg rfl) rfl rfl rfl B9 (Nat.le_of_ble_eq_true rfl) ?_
    intro w13 Es6 Bs6
    have F32 := F31.set Es6 (by omega)
    have hzs6 := Es6.size
    refine lx_nil ?_
    refine wk_seq ?_
    refine wk_region ?_
    refine lx_value (want rfl) (rn_fieldAddr fa_193_0 (A3.at 1 rfl ((hR1 1).trans rfl))) ?_
    refine lx_value (want rfl) (rn_load1Blk ag_182 rfl (((((BL1_1.ext E1e).ne E1f (by omega)).ext EL3).ext Eb9).ne Es6 (by omega)) rfl) ?_
    refine lx_value (want rfl) (rn_loadBlk ag_73 sz_73 rfl Bs6 rfl rfl) ?_
    refine lx_call (want rfl) (ent_func cf_147 (argsC (t_pointer rfl) (argsC (t_agg rfl) args0))) (kports_ct F l b x so co hsm (all_at hS.ok hx) w13 (hp.fr F32 (fun _ _ h => h))) ?_
    rintro _ w14 E10 rfl
    have F33 := F32.ext E10
    have hz10 := E10.size
    refine lx_value (want rfl) (mv_tuple rfl) ?_
    refine lx_value (want rfl) (rn_extract rfl rfl) ?_
    refine lx_value (want rfl) (rn_extract rfl rfl) ?_
    refine lx_value (want rfl) (as_int rfl) ?_
    refine lx_value (want rfl) (as_int rfl) ?_
    refine lx_nil ?_
    refine wk_region ?_
    refine lx_value (want rfl) (mv_int hs3_12) ?_
    refine lx_value (want rfl) (mv_int rfl) ?_
    refine lx_value (want rfl) (rn_add rfl rfl (by omega)) ?_
    refine lx_value (want rfl) (as_int rfl) ?_
    refine lx_nil ?_
    refine wk_region ?_
    refine lx_value (want rfl) (rn_add hs3_93 rfl (by omega)) ?_
    refine lx_value (want rfl) (mv_int rfl) ?_
    refine lx_nil ?_
    exact ⟨rfl, ((((((((((((((((((((A3.up rfl _).up rfl _).up rfl _).up rfl _).none _).up rfl _).up rfl _).up rfl _).up rfl _).up rfl _).up rfl _).up rfl _).up rfl _).up rfl _).up rfl _).up rfl _).up rfl _).up rfl _).up rfl _).up rfl _), (Fr.ext (Fr.trans (Fr.ext EL3 Eb9) Es6 (fun i hi1 h => (absurd hi1 (by omega)))) E10), _, (by omega), i + 1, rfl, (by rw [sumP_step hx]; exact rfl), rfl, by omega⟩
   ·
    refine lx_nil ?_
    refine wk_seq ?_
    refine wk_cond_f rfl ?_
    refine wk_exit ?_
    refine wk_seq ?_
    refine wk_seq ?_
    refine wk_region ?_
    refine lx_value (want rfl) (rn_load1Blk ag_214 (A3.at 3 rfl ((hR1 3).trans rfl)) (((BL1_4.ext E1e).ne E1f (by omega)).ext EL3) rfl) ?_
    refine lx_value (want rfl) (rn_lenM Tryz.underlying214 rfl (((BL1_3.ext E1e).ne E1f (by omega)).ext EL3)) ?_
    refine lx_value (want rfl) (mv_int hs3_12) ?_
    refine lx_value (want rfl) (rn_neq rfl rfl) ?_
    refine lx_dec_f ((fun q => q (by rw [hae, hfl, List.take_of_length_le (by omega)]))) ?_
    refine lx_nil ?_
    refine wk_cond_f rfl ?_
    refine wk_skip ?_
    refine wk_seq ?_
    refine wk_seq ?_
    refine wk_region ?_
    refine lx_value (want rfl) (rn_loadBlk ag_193 sz_193 (A3.at 1 rfl ((hR1 1).trans rfl)) (((BL1_1.ext E1e).ne E1f (by omega)).ext EL3) rfl rfl) ?_
    refine lx_call (want rfl) (ent_func cf_150 (argsC (t_agg rfl) args0)) (owners_ct _ g ss cs si ci w11) ?_
    rintro _ w12 E11 ⟨bW, rfl, hBW, hbW⟩
    have F34 := F30.ext E11
    have hz11 := E11.size
    have hlbW := (hBW).lt
    refine lx_nil ?_
    refine wk_block ?_
    refine wk_abs ?_
    intro ρR4 hR4
    refine wk_range (ps := [114, 115]) ((hR4 113).trans rfl) cf_163 ?_
    intro fR4 db4 l4 w13 RC4 hRC4 hdb4 hl4 hsz4 ER4 HD4 HL4
    have F35 := F34.ext ER4
    have hzR4 := ER4.size
    have hlt4_l := (HL4).lt
    have hlt4_d := (HD4).lt
    refine CT.mono (owners1_ct l4 bW F l b g ss cs si ci hsm hsi hsd hS.ok hS.loop hst1 (fun h => by have := hF _ h; omega) (fun (i : List Ow1) (w : World) => Fr no w0 w ∧ w13.heap.size ≤ w.heap.size ∧ Blk w b1 (cellsOf BL1_1) 193 ∧ Blk w b2 (cellsOf BL1_2) 4 ∧ MapL w b3 kD acc ∧ Blk w b4 (cellsOf BL1_4) 214 ∧ Blk w bG (cellsOf BL1_60) 193 ∧ At w db1 (.deferred (some [])) ∧ Blk w bW (cellsOf hBW) 193 ∧ At w l4 (RC4 .ready none) ∧ At w db4 (.deferred (some [])) ∧ ((i.all fun o => match g.ins[o.1]? with | none => false | some x => decide (x.outs[0]? = some o.2)) = true)) (fun _ => False) w13 ⟨F35, (by omega), (((((BL1_1.ext E1e).ne E1f (by omega)).ext EL3).ext E11).ext ER4), (((((BL1_2.ext E1e).ne E1f (by omega)).ext EL3).ext E11).ext ER4), (((((BL1_3.ext E1e).ne E1f (by omega)).ext EL3).ext E11).ext ER4), (((((BL1_4.ext E1e).ne E1f (by omega)).ext EL3).ext E11).ext ER4), (((((BL1_60.ext E1e).ne E1f (by omega)).ext EL3).ext E11).ext ER4), (((((BL1_902.ext E1e).ne E1f (by omega)).ext EL3).ext E11).ext ER4), (hBW.ext ER4), HL4, HD4, hown⟩ (by rintro i w ⟨FW4, hzW4, BL4_1, BL4_2, BL4_3, BL4_4, BL4_60, BL4_9020, BL4_61, BL4_901, BL4_902, hall⟩; exact ⟨BL4_61, hg.fr FW4 (fun _ _ h => h), hp.fr FW4 (fun _ _ h => h)⟩) (by rintro i w ⟨FW4, hzW4, BL4_1, BL4_2, BL4_3, BL4_4, BL4_60, BL4_9020, BL4_61, BL4_901, BL4_902, hall⟩; exact Fr.nF F35 FW4 hzW4 hF) (by intro w h; exact h.elim) ?_) (fun _ _ h => h) ?_
    ·
     rintro xI4 iR4 w14 w15 s c hi4 ⟨FW4, hzW4, BL4_1, BL4_2, BL4_3, BL4_4, BL4_60, BL4_9020, BL4_61, BL4_901, BL4_902, hall⟩ E4r
     have F36 := FW4.ext E4r
     have hz4r := E4r.size
     refine yd_round hRC4 (BL4_901.ext E4r) rfl ?_
     refine wk_seq ?_
     refine wk_region ?_
     refine lx_value (want rfl) (as_int rfl) ?_
     refine lx_nil ?_
     refine wk_region ?_
     refine lx_value (want rfl) (as_slice rfl) ?_
     refine lx_nil ?_
     refine ⟨rfl, (BL4_901.ext E4r), fun w16 E12 HBE12 => ?_⟩
     have F37 := F36.set E12 (by omega)
     have hz12 := E12.size
     obtain ⟨x, hx, hx0, hallr⟩ := own_cons hall
     obtain ⟨by_, oy, hsy, hFy, so, co, hcy, hco⟩ := hgi _ x hx
     subst hsy
     obtain ⟨bz, oz, hsz, hFz, s2, c2, hcz, hdz⟩ := hco 0 _ hx0
     subst hsz
     refine wk_block ?_
     refine wk_seq ?_
     refine wk_region ?_
     refine lx_value (want rfl) (rn_fieldAddr fa_193_1 ((hR4 1).trans (A3.at 1 rfl ((hR1 1).trans rfl)))) ?_
     refine lx_value (want rfl) (rn_fieldAddr fa_181_3 rfl) ?_
     refine lx_value (want rfl) (rn_load1Blk ag_33 rfl ((BL4_1.ext E4r).ne E12 (by omega)) rfl) ?_
     refine lx_value (want rfl) (mv_int rfl) ?_
     refine lx_value (want rfl) (rn_index xI4.1 Tryz.underlying33 sz_73 rfl rfl rfl (List.getElem?_eq_some_iff.1 hx).1) ?_
     refine lx_value (want rfl) (rn_fieldAddr fa_73_3 rfl) ?_
     refine lx_value (want rfl) (rn_load1 ag_71 rfl (F37.cell (fun h => h) (hcy 3 _ rfl))) ?_
     refine lx_value (want rfl) (rn_index 0 Tryz.underlying71 sz_76 rfl rfl rfl (by have := (List.getElem?_eq_some_iff.1 hx0).1; omega)) ?_
     refine lx_value (want rfl) (rn_load1 ag_76 rfl (F37.cell (fun h => h) hcz)) ?_
     refine lx_value (want rfl) (mv_slice rfl) ?_
     refine lx_call (want rfl) (ent_func cf_151 (argsC (t_slice rfl) (argsC (t_slice rfl) args0))) (equald_ct xI4.2 _ s c2 c F _ hi4.2 w16 (hdz.fr (ds_stab _) F37 (fun _ _ h => h)) (hi4.1.fr (ds_stab _) (Fr.trans (Fr.refl (fun k => k = l4) w15) E12 (fun k _ h => h)) (fun k hk h => by have h : k = l4 := h; omega))) ?_
     rintro _ w17 E13 rfl
     have F38 := F37.ext E13
     have hz13 := E13.size
     refine lx_value (want rfl) (rn_not rfl) ?_
     refine lx_nil ?_
     refine wk_cond_f rfl ?_
     refine wk_skip ?_
     refine ⟨(HBE12.ext E13), fun w18 E14 HRE14 => ?_⟩
     have F39 := F38.set E14 (by omega)
     have hz14 := E14.size
     exact ⟨(by omega), (show Nx _ _ true from ⟨F39, (by omega), ((((BL4_1.ext E4r).ne E12 (by omega)).ext E13).ne E14 (by omega)), ((((BL4_2.ext E4r).ne E12 (by omega)).ext E13).ne E14 (by omega)), ((((BL4_3.ext E4r).ne E12 (by omega)).ext E13).ne E14 (by omega)), ((((BL4_4.ext E4r).ne E12 (by omega)).ext E13).ne E14 (by omega)), ((((BL4_60.ext E4r).ne E12 (by omega)).ext E13).ne E14 (by omega)), ((((BL4_9020.ext E4r).ne E12 (by omega)).ext E13).ne E14 (by omega)), ((((BL4_61.ext E4r).ne E12 (by omega)).ext E13).ne E14 (by omega)), HRE14, ((((BL4_902.ext E4r).ne E12 (by omega)).ext E13).ne E14 (by omega)), hallr⟩)⟩
    ·
     rintro v w15 - (⟨w14, ⟨FW4, hzW4, BL4_1, BL4_2, BL4_3, BL4_4, BL4_60, BL4_9020, BL4_61, BL4_901, BL4_902, hall⟩, E4e⟩ | ⟨w14, hf, E4e⟩)
     ·
      have F40 := FW4.ext E4e
      have hz4e := E4e.size
      refine .inl ⟨(BL4_901.ext E4e), fun w16 E4f => ?_⟩
      have F41 := F40.set E4f (by omega)
      have hz4f := E4f.size
      refine wk_seq ?_
      refine wk_region ?_
      refine lx_set (want rfl) sz_4 ((hR4 2).trans (A3.at 2 rfl ((hR1 2).trans rfl))) (t_bool rfl) rfl rfl rfl ((BL4_2.ext E4e).ne E4f (by omega)) (Nat.le_of_ble_eq_true rfl) ?_
      intro w17 Es7 Bs7
      have F42 := F41.set Es7 (by omega)
      have hzs7 := Es7.size
      refine lx_nil ?_
      refine wk_ret ?_
      refine retMc (((BL4_902.ext E4e).ne E4f (by omega)).ne Es7 (by omega)) (fun w18 E15 => ?_)
      have F43 := F42.set E15 (by omega)
      have hz15 := E15.size
      refine retMc ((((BL4_9020.ext E4e).ne E4f (by omega)).ne Es7 (by omega)).ne E15 (by omega)) (fun w19 E16 => ?_)
      have F44 := F43.set E16 (by omega)
      have hz16 := E16.size
      refine retM0 ?_
      refine retR1 Tryz.results126 (.cell ((hR4 2).trans (A3.at 2 rfl ((hR1 2).trans rfl))) (run_loadVar_blk1 ag_4 ((Bs7.ne E15 (by omega)).ne E16 (by omega)) rfl)) F44 ?_
      exact rfl
     ·
      exact hf.elim
  ·
   exact hf.elim

end Go.Proofs.YtgnnegfnpgnbbaaGreatDoor

/- What functions compute: place, named. -/
import Derived.Test.YtgnnegfnpgnbbaaGreatDoorHomesFacts
import Derived.Test.YtgnnegfnpgnbbaaGreatDoorHomesPre
import Derived.Test.YtgnnegfnpgnbbaaGreatDoorHomesWalk4
import Derived.Test.YtgnnegfnpgnbbaaGreatDoorHomesWalk8
set_option maxRecDepth 100000
set_option linter.unusedVariables false
set_option linter.unusedSimpArgs false
namespace Go.Proofs.YtgnnegfnpgnbbaaGreatDoor
open Go Go.RowKit Go.Mix Go.Eng
set_option maxHeartbeats 2000000 in
set_option maxRecDepth 100000 in
theorem place_ct (l : List Sg) (sl : Option Addr) (cl : Nat) (F : Nat → Prop) (hsm : smallG l = true) (hd : distB l = true) (hok : placeOk l = true) (w0 : World) (hL : SgS F w0 sl l) :
  CT Tryz.prog 85 [.slice sl l.length cl] w0 no (fun v w => ∃ sa ca sb cb, v = .agg #[.slice sa (placeL l).slots.length ca, .slice sb (placeL l).code.length cb] ∧ StR (Iv w0.heap.size w.heap.size) w (placeL l) sa ca sb cb) := by
 have hl90 := of_decide_eq_true (Bool.and_eq_true_iff.1 hok).1
 have F0 := Fr.refl no w0
 refine ct_body Tryz.func85 rfl Tryz.ntmps85 (Nat.le_of_ble_eq_true rfl) ?_
 refine wk_seq ?_
 refine wk_region ?_
 refine lx_new (want rfl) (rn_alloc ze_35) ?_
 intro b1 w1 hb1 Eb1 B1 hlb1
 have F1 := F0.ext Eb1
 have hzb1 := Eb1.size
 refine lx_nil ?_
 refine wk_seq ?_
 refine wk_region ?_
 refine lx_makeMapL kS (want rfl) ?_
 intro b2 w2 hb2 Eb2 B2
 have F2 := F1.ext Eb2
 have hzb2 := Eb2.size
 have hlb2 := B2.lt
 refine lx_value (want rfl) (as_map rfl) ?_
 refine lx_nil ?_
 refine wk_seq ?_
 refine wk_seq ?_
 refine wk_region ?_
 refine lx_value (want rfl) (mv_slice rfl) ?_
 refine lx_value (want rfl) (rn_len Tryz.underlying128 rfl) ?_
 refine lx_value (want rfl) (mv_int rfl) ?_
 refine lx_nil ?_
 refine wk_block ?_
 refine wk_loopA [4, 5, 14, 15, 16, 17, 18, 19, 20, 21, 22, 23] (fun j => no j ∨ w0.heap.size ≤ j) (fun nM ρ w => ∃ (i : Nat), nM = l.length - i ∧ ρ 14 = .int .i64 i ∧ Blk w b1 (cellsOf B1) 35 ∧ MapL w b2 kS ((atL l).take i) ∧ (i ≤ l.length)) _ ⟨0, rfl, rfl, (B1.ext Eb2), (by first | exact mapL_step hg B2 | exact B2), by omega⟩ ?_
 rintro n1 ρ1 w3 A1 EL1 ⟨i, rfl, hs1_14, BL1_1, BL1_2, hi⟩
 have F3 := F2.wide EL1
 have hzL1 := EL1.size
 refine wk_seq ?_
 refine wk_region ?_
 refine lx_value (want rfl) (rn_lss hs1_14 (A1.at 13 rfl rfl)) ?_
 refine lx_dec (fun hlt0 => ?_) (fun hlt0 => ?_)
 ·
  obtain ⟨g, hg⟩ := getx hlt0
  obtain ⟨bx, ox, hsx, hFx, ss, cs, si, ci, hcx, hst, hins, hroom⟩ := hL i g hg
  subst hsx
  refine lx_nil ?_
  refine wk_seq ?_
  refine wk_cond_t rfl ?_
  refine wk_skip ?_
  refine wk_seq ?_
  refine wk_block ?_
  refine wk_seq ?_
  refine wk_region ?_
  refine lx_value (want rfl) (mv_int hs1_14) ?_
  refine lx_value (want rfl) (rn_index _ Tryz.underlying128 sz_181 (A1.at 12 rfl rfl) hs1_14 rfl (by omega)) ?_
  refine lx_value (want rfl) (rn_loadN ag_181 sz_181 rfl rfl (hcx.fr F3 (fun h => h))) ?_
  refine lx_new (want rfl) (rn_alloc ze_181) ?_
  intro b3 w4 hb3 Eb3 B3 hlb3
  have F4 := F3.ext Eb3
  have hzb3 := Eb3.size
  refine lx_value (want rfl) (as_int rfl) ?_
  refine lx_set (want rfl) sz_181 rfl (t_agg rfl) rfl rfl rfl B3 (Nat.le_of_ble_eq_true rfl) ?_
  intro w5 Es1 Bs1
  have F5 := F4.set Es1 (by omega)
  have hzs1 := Es1.size
  refine lx_nil ?_
  refine wk_region ?_
  refine lx_value (want rfl) (mv_map (A1.at 3 rfl rfl)) ?_
  refine lx_value (want rfl) (rn_fieldAddr fa_181_0 rfl) ?_
  refine lx_value (want rfl) (rn_load1Blk ag_9 rfl Bs1 rfl) ?_
  refine lx_value (want rfl) (mv_int rfl) ?_
  refine lx_updL (want rfl) mv_185.g rfl (show _ = kS g.nm from rfl) (t_int rfl) ((BL1_2.ext Eb3).ne Es1 (by omega)) (atL_new hd hg) ?_
  intro w6 Em1 HMEm1
  have F6 := F5.set Em1 (by omega)
  have hzm1 := Em1.size
  refine lx_nil ?_
  refine wk_region ?_
  refine lx_value (want rfl) (rn_add hs1_14 rfl (by omega)) ?_
  refine lx_value (want rfl) (mv_int rfl) ?_
  refine lx_nil ?_
  exact ⟨rfl, ((((((((((((((A1.up rfl _).up rfl _).up rfl _).up rfl _).up rfl _).up rfl _).none _).up rfl _).up rfl _).up rfl _).up rfl _).none _).up rfl _).up rfl _), Fr.between F2 F6 (by omega), _, (by omega), i + 1, rfl, rfl, (((BL1_1.ext Eb3).ne Es1 (by omega)).ne Em1 (by omega)), (by first | exact mapL_step hg HMEm1 | exact HMEm1), by omega⟩
 ·
  refine lx_nil ?_
  refine wk_seq ?_
  refine wk_cond_f rfl ?_
  refine wk_exit ?_
  refine wk_seq ?_
  refine wk_seq ?_
  refine wk_region ?_
  refine lx_value (want rfl) (mv_slice (A1.at 0 rfl rfl)) ?_
  have hn1 := HZ.nil (α := Slt) ql_s w3
  have hn1i := fun (k : Nat) (hk : zz zn (fun _ => False) k) => (hk.elim : zz none (fun _ => False) k ∨ w3.heap.size ≤ k)
  have tg2 : ∀ k, zz zn (fun _ => False) k → w0.heap.size ≤ k := fun k hk => (hn1i k hk).elim ((fun _ h => zz_nil h) k) (fun h => by omega)
  have tn2_1 : ∀ k, zz zn (fun _ => False) k → k ≠ b1 := fun k hk => (hn1i k hk).elim ((fun _ h => zz_nil h) k) (fun h => by have := (BL1_1).lt; omega)
  have tn2_2 : ∀ k, zz zn (fun _ => False) k → k ≠ b2 := fun k hk => (hn1i k hk).elim ((fun _ h => zz_nil h) k) (fun h => by have := (BL1_2).lt; omega)
  have hn2 := HZ.nil (α := Ins) qi_s w3
  have hn2i := fun (k : Nat) (hk : zz zn (fun _ => False) k) => (hk.elim : zz none (fun _ => False) k ∨ w3.heap.size ≤ k)
  have tg4 : ∀ k, zz zn (fun _ => False) k → w0.heap.size ≤ k := fun k hk => (hn2i k hk).elim ((fun _ h => zz_nil h) k) (fun h => by omega)
  have tn4_1 : ∀ k, zz zn (fun _ => False) k → k ≠ b1 := fun k hk => (hn2i k hk).elim ((fun _ h => zz_nil h) k) (fun h => by have := (BL1_1).lt; omega)
  have tn4_2 : ∀ k, zz zn (fun _ => False) k → k ≠ b2 := fun k hk => (hn2i k hk).elim ((fun _ h => zz_nil h) k) (fun h => by have := (BL1_2).lt; omega)
  have tt4_1 : ∀ k, zz zn (fun _ => False) k → zz zn (fun _ => False) k → False := fun k hk h2 => (hn2i k hk).elim (fun h => (fun _ h _ => zz_nil h) k h h2) (fun h => by have := (hn1).lt (k := k) h2; omega)
  refine lx_value (want rfl) (rn_len Tryz.underlying128 rfl) ?_
  refine lx_value (want rfl) (mv_int rfl) ?_
  refine lx_nil ?_
  refine wk_block ?_
  refine wk_loopA [7, 8, 10, 26, 27, 28, 29, 30, 31, 32, 33, 34, 35, 36, 37, 38, 39, 40, 41, 42, 43, 44, 45, 46, 47, 48, 49, 50, 51, 52, 53, 54, 55, 56, 57, 58, 59, 60, 61, 62, 63, 64, 65, 66, 67, 68, 69, 70, 71, 72, 73, 74, 75, 76, 77, 78, 79, 80, 81] (fun j => no j ∨ w0.heap.size ≤ j) (fun nM ρ w => ∃ (i B : Nat) (us vs : List Value) (so2_1 : Option Addr) (co2_1 : Nat) (so2_2 : Option Addr) (co2_2 : Nat) (TT2_1 : Nat → Prop) (TT2_2 : Nat → Prop), nM = l.length - i ∧ ρ 26 = .int .i64 i ∧ Blk w b1 [.slice so2_1 i co2_1, .slice so2_2 B co2_2] 35 ∧ MapL w b2 kS (atL l) ∧ OwnS w 78 6 so2_1 (i) co2_1 (us) ∧ (∀ k, ob so2_1 k → w0.heap.size ≤ k) ∧ (∀ k, ob so2_1 k → k ≠ b1) ∧ (∀ k, ob so2_1 k → k ≠ b2) ∧ OwnS w 73 4 so2_2 (B) co2_2 (vs) ∧ (∀ k, ob so2_2 k → w0.heap.size ≤ k) ∧ (∀ k, ob so2_2 k → k ≠ b1) ∧ (∀ k, ob so2_2 k → k ≠ b2) ∧ HZ 6 QL TT2_1 w us (placeS (l.take i) 0) ∧ (∀ k, zz zn TT2_1 k → w0.heap.size ≤ k) ∧ (∀ k, zz zn TT2_1 k → k ≠ b1) ∧ (∀ k, zz zn TT2_1 k → k ≠ b2) ∧ (∀ k, zz zn TT2_1 k → ob so2_1 k → False) ∧ (∀ k, zz zn TT2_1 k → ob so2_2 k → False) ∧ HZ 4 QI TT2_2 w vs (placeC l (l.take i) 0) ∧ (∀ k, zz zn TT2_2 k → w0.heap.size ≤ k) ∧ (∀ k, zz zn TT2_2 k → k ≠ b1) ∧ (∀ k, zz zn TT2_2 k → k ≠ b2) ∧ (∀ k, zz zn TT2_2 k → ob so2_1 k → False) ∧ (∀ k, zz zn TT2_2 k → ob so2_2 k → False) ∧ (∀ k, ob so2_1 k → ob so2_2 k → False) ∧ (∀ k, zz zn TT2_1 k → zz zn TT2_2 k → False) ∧ (i ≤ l.length) ∧ (B = (placeC l (l.take i) 0).length)) _ ⟨0, 0, [], [], none, 0, none, 0, (fun _ => False), (fun _ => False), rfl, rfl, BL1_1, (by first | exact mapL_all hlt0 BL1_2 | exact BL1_2), (OwnS.nil w3 78 6), (fun _ h => ob_none h), (fun _ h => ob_none h), (fun _ h => ob_none h), (OwnS.nil w3 73 4), (fun _ h => ob_none h), (fun _ h => ob_none h), (fun _ h => ob_none h), hn1, tg2, tn2_1, tn2_2, (fun _ _ h => ob_none h), (fun _ _ h => ob_none h), hn2, tg4, tn4_1, tn4_2, (fun _ _ h => ob_none h), (fun _ _ h => ob_none h), (fun _ _ h => ob_none h), (fun k h1 h2 => tt4_1 k h2 h1), by omega, rfl⟩ ?_
  rintro n2 ρ2 w4 A2 EL2 ⟨i, B, us, vs, so2_1, co2_1, so2_2, co2_2, TT2_1, TT2_2, rfl, hs2_26, BL2_1, BL2_2, ow2L_1, ge2L_1, ne2L_1_1, ne2L_1_2, ow2L_2, ge2L_2, ne2L_2_1, ne2L_2_2, tw2L_1, tg2L_1, tn2L_1_1, tn2L_1_2, ts2L_1_1, ts2L_1_2, tw2L_2, tg2L_2, tn2L_2_1, tn2L_2_2, ts2L_2_1, ts2L_2_2, sp2L_1_2, tt2L_1_2, hi, hB⟩
  have F7 := F3.wide EL2
  have hzL2 := EL2.size
  refine wk_seq ?_
  refine wk_region ?_
  refine lx_value (want rfl) (rn_lss hs2_26 (A2.at 25 rfl rfl)) ?_
  refine lx_dec (fun hlt => ?_) (fun hlt => ?_)
  ·
   obtain ⟨g, hg⟩ := getx hlt
   obtain ⟨hgb, hgo⟩ := placeOk_at hok hg
   have hgs := smallG_at hsm hg
   have hgl := smallI_len hgs.2.1
   have hpb := placeC_bd hsm i
   have hpc := placeC_step hg
   have hps := placeS_step hg
   rw [← hB] at hpb hpc hps
   obtain ⟨bx, ox, hsx, hFx, ss, cs, si, ci, hcx, hst, hins, hroom⟩ := hL i g hg
   subst hsx
   refine lx_nil ?_
   refine wk_seq ?_
   refine wk_cond_t rfl ?_
   refine wk_skip ?_
   refine wk_seq ?_
   refine wk_block ?_
   refine wk_seq ?_
   refine wk_region ?_
   refine lx_value (want rfl) (rn_index _ Tryz.underlying128 sz_181 (A2.at 24 rfl rfl) hs2_26 rfl (by omega)) ?_
   refine lx_value (want rfl) (rn_loadN ag_181 sz_181 rfl rfl (hcx.fr F7 (fun h => h))) ?_
   refine lx_new (want rfl) (rn_alloc ze_181) ?_
   intro b4 w5 hb4 Eb4 B4 hlb4
   have F8 := F7.ext Eb4
   have hzb4 := Eb4.size
   have nb1 : ∀ k, ob so2_1 k → k ≠ b4 := fun k hk => by have := (ow2L_1).lt hk; omega
   have nb2 : ∀ k, ob so2_2 k → k ≠ b4 := fun k hk => by have := (ow2L_2).lt hk; omega
   have nb3 : ∀ k, zz zn TT2_1 k → k ≠ b4 := fun k hk => by have := (tw2L_1).lt hk; omega
   have nb4 : ∀ k, zz zn TT2_2 k → k ≠ b4 := fun k hk => by have := (tw2L_2).lt hk; omega
   refine lx_set (want rfl) sz_181 rfl (t_agg rfl) rfl rfl rfl B4 (Nat.le_of_ble_eq_true rfl) ?_
   intro w6 Es2 Bs2
   have F9 := F8.set Es2 (by omega)
   have hzs2 := Es2.size
   refine lx_nil ?_
   refine wk_seq ?_
   refine wk_region ?_
   refine lx_value (want rfl) (rn_fieldAddr fa_35_1 (A2.at 2 rfl (A1.at 2 rfl rfl))) ?_
   refine lx_value (want rfl) (rn_load1Blk ag_33 rfl ((BL2_1.ext Eb4).ne Es2 (by omega)) rfl) ?_
   refine lx_value (want rfl) (rn_len Tryz.underlying33 rfl) ?_
   refine lx_value (want rfl) (as_int rfl) ?_
   refine lx_nil ?_
   refine wk_seq ?_
   refine wk_mix 18 (fun kS => match kS with | 11 => .val (.bool (isLoopB g.ins)) | 15 => .any (fun I v w => ∃ s c, v = .slice s (mvL (B : Int) g.st).length c ∧ DdS (fun k => w6.heap.size ≤ k) w s (mvL (B : Int) g.st)) | 16 => .any (fun I v w => ∃ s c, v = .agg #[.string g.nm, .int .i64 (B : Nat), .int .i64 (g.ins.length : Nat), .int .i64 (g.ex : Nat), .bool (isLoopB g.ins), .slice s (mvL (B : Int) g.st).length c] ∧ DdS (fun k => w6.heap.size ≤ k) w s (mvL (B : Int) g.st)) | 17 => .any (fun I v w => ∃ b s c, v = .slice (some ⟨b, 0, none⟩) 1 1 ∧ Blk w b [.string g.nm, .int .i64 (B : Nat), .int .i64 (g.ins.length : Nat), .int .i64 (g.ex : Nat), .bool (isLoopB g.ins), .slice s (mvL (B : Int) g.st).length c] 78 ∧ DdS (fun k => w6.heap.size ≤ k) w s (mvL (B : Int) g.st)) | _ => .none) (by kernel_rfl) (by kernel_rfl) (by intro kS G hk; (try dsimp only at hk); (split at hk) <;> first | (cases hk; done) | (injection hk with hk; subst hk; exact ⟨by intro j hkj I v w w' hR hG; first | exact hG | (obtain ⟨s, c, h1, h2⟩ := hG; exact ⟨s, c, h1, h2.ext (dd_stab _) hR⟩) | (obtain ⟨s, c, h1, h2⟩ := hG; exact ⟨s, c, h1, h2.ext (dd_stab _) hR⟩) | (obtain ⟨b, s, c, h1, h2, h3⟩ := hG; exact ⟨b, s, c, h1, h2.ext hR, h3.ext (dd_stab _) hR⟩), fun ⟨_, _, _, _, hs⟩ => by (try dsimp only at hs); split at hs <;> cases hs⟩)) (by intro kS s y G hk; (try dsimp only at hk); split at hk <;> cases hk) ?_
   simp only [List.take_succ_cons, List.take_zero, List.take_nil, List.drop_succ_cons, List.drop_zero, List.drop_nil]
   refine mx_calm rfl (want rfl) (fun u1 eu1 fu1 => rn_fieldAddr fa_35_0 (A2.at 2 rfl (A1.at 2 rfl rfl))) ?_
   refine mx_calm rfl (want rfl) (fun u2 eu2 fu2 => rn_load1Blk ag_32 rfl (((BL2_1.ext Eb4).ne Es2 (by omega)).ext ((ext_drawn _).trans' eu2)) rfl) ?_
   refine mx_calm rfl (want rfl) (fun u3 eu3 fu3 => rn_fieldAddr fa_181_0 rfl) ?_
   refine mx_calm rfl (want rfl) (fun u4 eu4 fu4 => rn_load1Blk ag_9 rfl (Bs2.ext ((ext_drawn _).trans' eu4)) rfl) ?_
   refine mx_calm rfl (want rfl) (fun u5 eu5 fu5 => mv_int rfl) ?_
   refine mx_calm rfl (want rfl) (fun u6 eu6 fu6 => rn_fieldAddr fa_181_3 rfl) ?_
   refine mx_calm rfl (want rfl) (fun u7 eu7 fu7 => rn_load1Blk ag_33 rfl (Bs2.ext ((ext_drawn _).trans' eu7)) rfl) ?_
   refine mx_calm rfl (want rfl) (fun u8 eu8 fu8 => rn_len Tryz.underlying33 rfl) ?_
   refine mx_calm rfl (want rfl) (fun u9 eu9 fu9 => rn_fieldAddr fa_181_1 rfl) ?_
   refine mx_calm rfl (want rfl) (fun u10 eu10 fu10 => rn_load1Blk ag_3 rfl (Bs2.ext ((ext_drawn _).trans' eu10)) rfl) ?_
   refine mx_calm rfl (want rfl) (fun u11 eu11 fu11 => rn_loadBlk ag_181 sz_181 rfl (Bs2.ext ((ext_drawn _).trans' eu11)) rfl rfl) ?_
   refine mx_val rfl (want rfl) (fun u12 eu12 fu12 => do_call (ent_func cf_128 (argsC (t_agg rfl) args0)) (oloop_ct g ss cs si ci F hgl u12 (hins.fr (in_stab F) (F9.ext ((ext_drawn _).trans' eu12)) (fun _ _ h => h))) (fun _ _ E h => ⟨E, h⟩)) ?_
   refine mx_calm rfl (want rfl) (fun u13 eu13 fu13 => rn_fieldAddr fa_181_2 rfl) ?_
   refine mx_calm rfl (want rfl) (fun u14 eu14 fu14 => rn_load1Blk ag_71 rfl (Bs2.ext ((ext_drawn _).trans' eu14)) rfl) ?_
   refine mx_calm rfl (want rfl) (fun u15 eu15 fu15 => mv_int rfl) ?_
   refine mx_any rfl rfl (want rfl) (fun u16 eu16 fu16 => do_call (ent_func cf_120 (argsC (t_slice rfl) (argsC (t_int rfl) args0))) (copied_ct g.st ss cs F (B : Int) (by omega) hgs.1 hgb u16 (hst.fr (dd_stab F) (F9.ext ((ext_drawn _).trans' eu16)) (fun _ _ h => h))) (fun v w' E h => ⟨E, (by obtain ⟨s, c, h1, h2⟩ := h; exact ⟨s, c, h1, dd_wide (fun k hk => Nat.le_trans (((ext_drawn _).trans' eu16)).size hk.1) h2⟩)⟩)) (fun I48 v48 => ?_)
   refine mx_any rfl rfl (want rfl) (fun u17 eu17 fu17 => by obtain ⟨s48, c48, rfl, hd48⟩ := fu17 48 _ rfl (show (48 : Nat) ∈ _ from by decide); exact do_value (rn_build6 (t_string rfl) (t_int rfl) (t_int rfl) (t_int rfl) (t_bool rfl) (t_slice rfl) (fun w => bd_78_0_1_2_3_4_5 _ _ _ _ _ _ _ _ w)) ⟨(Fr.refl no _), ⟨s48, c48, rfl, hd48⟩⟩) (fun I49 v49 => ?_)
   refine mx_any rfl rfl (want rfl) (fun u18 eu18 fu18 => by obtain ⟨s48, c48, rfl, hd48⟩ := fu18 49 _ rfl (show (49 : Nat) ∈ _ from by decide); exact (do_newS2 (rn_bslice (xs := [.tmp 49]) Tryz.underlying32 sz_78 ze_78 rfl (argsC (t_agg rfl) args0) (CL.cons rfl rfl CL.nil) rfl (Nat.le_of_ble_eq_true rfl)) (show _ ≤ _ from (((ext_drawn _).trans' eu18)).size)).mono (fun v w' h => ⟨h.1, (by obtain ⟨b, h2, h3, h4, h5⟩ := h.2; exact ⟨b, s48, c48, h2, h5, hd48.ext (dd_stab _) h.1⟩)⟩)) (fun I50 v50 => ?_)
   refine mx_nil (fun w7 E1' H1 HS => ?_)
   have E1 := (ext_drawn _).trans' E1'
   have F10 := F9.ext E1
   have hz1 := E1.size
   have hI50 := (HS.1 50 _ rfl).2
   have hI49 := (HS.1 49 _ rfl).2
   have hI48 := (HS.1 48 _ rfl).2
   have hX50_49 := HS.2 50 _ 49 _ rfl rfl (show (50 : Nat) ≠ 49 from by decide)
   have hX50_48 := HS.2 50 _ 48 _ rfl rfl (show (50 : Nat) ≠ 48 from by decide)
   have hX49_48 := HS.2 49 _ 48 _ rfl rfl (show (49 : Nat) ≠ 48 from by decide)
   simp only at hI50
   simp only at hI49
   simp only at hI48
   simp only at hX50_49
   simp only at hX50_48
   simp only at hX49_48
   have g50 := H1 50 _ rfl
   obtain ⟨bS50, s48, c48, rfl, hBS50, hDN⟩ := g50
   have g49 := H1 49 _ rfl
   have g48 := H1 48 _ rfl
   have hd1 : DZ (Iv w6.heap.size w7.heap.size) w7 s48 (mvL (B : Int) g.st) := ⟨dd_lt hDN, fun k hk => hk.2⟩
   have hd1i := fun (k : Nat) (hk : zz zn (Iv w6.heap.size w7.heap.size) k) => (Or.inr hk.1 : zz none (fun _ => False) k ∨ w6.heap.size ≤ k)
   have tg6 : ∀ k, zz zn (Iv w6.heap.size w7.heap.size) k → w0.heap.size ≤ k := fun k hk => (hd1i k hk).elim ((fun _ h => zz_nil h) k) (fun h => by omega)
   have tn6_1 : ∀ k, zz zn (Iv w6.heap.size w7.heap.size) k → k ≠ b1 := fun k hk => (hd1i k hk).elim ((fun _ h => zz_nil h) k) (fun h => by have := (BL2_1).lt; omega)
   have tn6_2 : ∀ k, zz zn (Iv w6.heap.size w7.heap.size) k → k ≠ b2 := fun k hk => (hd1i k hk).elim ((fun _ h => zz_nil h) k) (fun h => by have := (BL2_2).lt; omega)
   have tn6_4 : ∀ k, zz zn (Iv w6.heap.size w7.heap.size) k → k ≠ b4 := fun k hk => (hd1i k hk).elim ((fun _ h => zz_nil h) k) (fun h => by have := (Bs2).lt; omega)
   have ts6_1 : ∀ k, zz zn (Iv w6.heap.size w7.heap.size) k → ob so2_1 k → False := fun k hk h2 => (hd1i k hk).elim (fun h => (fun _ h _ => zz_nil h) k h h2) (fun h => by have := (ow2L_1).lt h2; omega)
   have ts6_2 : ∀ k, zz zn (Iv w6.heap.size w7.heap.size) k → ob so2_2 k → False := fun k hk h2 => (hd1i k hk).elim (fun h => (fun _ h _ => zz_nil h) k h h2) (fun h => by have := (ow2L_2).lt h2; omega)
   have tt6_1 : ∀ k, zz zn (Iv w6.heap.size w7.heap.size) k → zz zn TT2_1 k → False := fun k hk h2 => (hd1i k hk).elim (fun h => (fun _ h _ => zz_nil h) k h h2) (fun h => by have := (tw2L_1).lt (k := k) h2; omega)
   have tt6_2 : ∀ k, zz zn (Iv w6.heap.size w7.heap.size) k → zz zn TT2_2 k → False := fun k hk h2 => (hd1i k hk).elim (fun h => (fun _ h _ => zz_nil h) k h h2) (fun h => by have := (tw2L_2).lt (k := k) h2; omega)
   refine lx_append 72 (want rfl) Tryz.underlying32 ti_78 (by decide) rfl (by decide) rfl rfl (((ow2L_1.ext Eb4).ne Es2 (fun h => nb1 _ h rfl)).ext E1) ((Src.blk hBS50 rfl rfl)) (by omega) ?_
   intro sq3 cq3 w8 AP3
   have EA3 := AP3.fr
   have ow3 := AP3.own
   have ge3 : ∀ k, ob sq3 k → w0.heap.size ≤ k := fun k hk => (AP3.blk k hk).elim (ge2L_1 k) (fun h => (Nat.le_trans F10.size h))
   have ne3_1 : ∀ k, ob sq3 k → k ≠ b1 := fun k hk => (AP3.blk k hk).elim (ne2L_1_1 k) (fun h => by have := ((((BL2_1.ext Eb4).ne Es2 (by omega)).ext E1)).lt; omega)
   have ne3_2 : ∀ k, ob sq3 k → k ≠ b2 := fun k hk => (AP3.blk k hk).elim (ne2L_1_2 k) (fun h => by have := ((((BL2_2.ext Eb4).ne Es2 (by omega)).ext E1)).lt; omega)
   have ne3_4 : ∀ k, ob sq3 k → k ≠ b4 := fun k hk => (AP3.blk k hk).elim (nb1 k) (fun h => by have := ((Bs2.ext E1)).lt; omega)
   have sp3_2 : ∀ k, ob sq3 k → ob so2_2 k → False := fun k hk h2 => (AP3.blk k hk).elim (fun h => sp2L_1_2 k h h2) (fun h => by have := ((((ow2L_2.ext Eb4).ne Es2 (fun h => nb2 _ h rfl)).ext E1)).lt h2; omega)
   have F11 := F10.new EA3 ge2L_1
   have hzA3 := EA3.size
   have BA3_1 := (((BL2_1.ext Eb4).ne Es2 (by omega)).ext E1).fr EA3 (fun h => ne2L_1_1 _ h rfl)
   have BA3_2 := (((BL2_2.ext Eb4).ne Es2 (by omega)).ext E1).fr EA3 (fun h => ne2L_1_2 _ h rfl)
   have BA3_4 := (Bs2.ext E1).fr EA3 (fun h => nb1 _ h rfl)
   have oA3_2 := (((ow2L_2.ext Eb4).ne Es2 (fun h => nb2 _ h rfl)).ext E1).fr EA3 (fun k h1 h2 => sp2L_1_2 k h2 h1)
   have sr3_2 : ∀ k, ob so2_2 k → ob sq3 k → False := fun k h1 h2 => sp3_2 k h2 h1
   have sa3_1 : ∀ k, zz zn TT2_1 k → ob sq3 k → False := fun k hk h2 => (AP3.blk k h2).elim (fun h => ts2L_1_1 k hk h) (fun h => by have := ((((tw2L_1.ext Eb4).fr Es2 (fun k hk h => nb3 k hk h)).ext E1)).lt hk; omega)
   have sa3_2 : ∀ k, zz zn TT2_2 k → ob sq3 k → False := fun k hk h2 => (AP3.blk k h2).elim (fun h => ts2L_2_1 k hk h) (fun h => by have := ((((tw2L_2.ext Eb4).fr Es2 (fun k hk h => nb4 k hk h)).ext E1)).lt hk; omega)
   have sa3_3 : ∀ k, zz zn (Iv w6.heap.size w7.heap.size) k → ob sq3 k → False := fun k hk h2 => (AP3.blk k h2).elim (fun h => ts6_1 k hk h) (fun h => by have := (hd1).lt hk; omega)
   have tw7 := (by have h := (((((tw2L_1.ext Eb4).fr Es2 (fun k hk h => nb3 k hk h)).ext E1).fr EA3 (fun k hk h => ts2L_1_1 k hk h))).snoc (a := slL (placeT g B) s48 c48) (x := placeT g B) (show QL _ _ _ _ from ⟨s48, c48, rfl, ((hd1.fr EA3 (fun k hk h => ts6_1 k hk h))).1⟩) (fun k hk => ((hd1.fr EA3 (fun k hk h => ts6_1 k hk h))).lt hk); rwa [← hps] at h)
   have tg7 : ∀ k, zz zn (fun k => TT2_1 k ∨ (Iv w6.heap.size w7.heap.size) k) k → w0.heap.size ≤ k := fun k => (fun h => h.elim (fun h => tg2L_1 k h) (fun h => tg6 k h))
   have tn7_1 : ∀ k, zz zn (fun k => TT2_1 k ∨ (Iv w6.heap.size w7.heap.size) k) k → k ≠ b1 := fun k => (fun h => h.elim (fun h => tn2L_1_1 k h) (fun h => tn6_1 k h))
   have tn7_2 : ∀ k, zz zn (fun k => TT2_1 k ∨ (Iv w6.heap.size w7.heap.size) k) k → k ≠ b2 := fun k => (fun h => h.elim (fun h => tn2L_1_2 k h) (fun h => tn6_2 k h))
   have tn7_4 : ∀ k, zz zn (fun k => TT2_1 k ∨ (Iv w6.heap.size w7.heap.size) k) k → k ≠ b4 := fun k => (fun h => h.elim (fun h => nb3 k h) (fun h => tn6_4 k h))
   have ts7_1 : ∀ k, zz zn (fun k => TT2_1 k ∨ (Iv w6.heap.size w7.heap.size) k) k → ob sq3 k → False := fun k h0 h2 => (fun h => h.elim (fun h => sa3_1 k h h2) (fun h => sa3_3 k h h2)) h0
   have ts7_2 : ∀ k, zz zn (fun k => TT2_1 k ∨ (Iv w6.heap.size w7.heap.size) k) k → ob so2_2 k → False := fun k h0 h2 => (fun h => h.elim (fun h => ts2L_1_2 k h h2) (fun h => ts6_2 k h h2)) h0
   have tt7_2 : ∀ k, zz zn (fun k => TT2_1 k ∨ (Iv w6.heap.size w7.heap.size) k) k → zz zn TT2_2 k → False := fun k h0 h2 => (fun h => h.elim (fun h => tt2L_1_2 k h h2) (fun h => tt6_2 k h h2)) h0
   refine lx_value (want rfl) (rn_fieldAddr fa_35_0 (A2.at 2 rfl (A1.at 2 rfl rfl))) ?_
   refine lx_set (want rfl) sz_32 rfl (t_slice rfl) rfl rfl rfl BA3_1 (Nat.le_of_ble_eq_true rfl) ?_
   intro w9 Es3 Bs3
   have F12 := F11.set Es3 (by omega)
   have hzs3 := Es3.size
   refine lx_nil ?_
   refine wk_seq ?_
   refine wk_region ?_
   refine lx_value (want rfl) (rn_fieldAddr fa_181_3 rfl) ?_
   refine lx_value (want rfl) (rn_load1Blk ag_33 rfl (BA3_4.ne Es3 (by omega)) rfl) ?_
   refine lx_value (want rfl) (rn_len Tryz.underlying33 rfl) ?_
   refine lx_value (want rfl) (mv_int rfl) ?_
   refine lx_nil ?_
   refine wk_block ?_
   refine wk_loopA [10, 56, 57, 58, 59, 60, 61, 62, 63, 64, 65, 66, 67, 68, 69, 70, 71, 72, 73, 74, 75, 76, 77, 78, 79, 80] (fun j => no j ∨ w0.heap.size ≤ j) (fun nM ρ w => ∃ (j : Nat) (vs2 : List Value) (so3_1 : Option Addr) (co3_1 : Nat) (so3_2 : Option Addr) (co3_2 : Nat) (TT3_1 : Nat → Prop) (TT3_2 : Nat → Prop), nM = g.ins.length - j ∧ ρ 56 = .int .i64 j ∧ Blk w b1 [.slice so3_1 (i + 1) co3_1, .slice so3_2 (B + j) co3_2] 35 ∧ MapL w b2 kS (atL l) ∧ Blk w b4 (cellsOf BA3_4) 181 ∧ OwnS w 78 6 so3_1 (i + 1) co3_1 ((us ++ slL (placeT g B) s48 c48)) ∧ (∀ k, ob so3_1 k → w0.heap.size ≤ k) ∧ (∀ k, ob so3_1 k → k ≠ b1) ∧ (∀ k, ob so3_1 k → k ≠ b2) ∧ (∀ k, ob so3_1 k → k ≠ b4) ∧ OwnS w 73 4 so3_2 (B + j) co3_2 (vs2) ∧ (∀ k, ob so3_2 k → w0.heap.size ≤ k) ∧ (∀ k, ob so3_2 k → k ≠ b1) ∧ (∀ k, ob so3_2 k → k ≠ b2) ∧ (∀ k, ob so3_2 k → k ≠ b4) ∧ HZ 6 QL TT3_1 w (us ++ slL (placeT g B) s48 c48) (placeS (l.take (i + 1)) 0) ∧ (∀ k, zz zn TT3_1 k → w0.heap.size ≤ k) ∧ (∀ k, zz zn TT3_1 k → k ≠ b1) ∧ (∀ k, zz zn TT3_1 k → k ≠ b2) ∧ (∀ k, zz zn TT3_1 k → k ≠ b4) ∧ (∀ k, zz zn TT3_1 k → ob so3_1 k → False) ∧ (∀ k, zz zn TT3_1 k → ob so3_2 k → False) ∧ HZ 4 QI TT3_2 w vs2 (placeC l (l.take i) 0 ++ (g.ins.take j).map (placeI l B)) ∧ (∀ k, zz zn TT3_2 k → w0.heap.size ≤ k) ∧ (∀ k, zz zn TT3_2 k → k ≠ b1) ∧ (∀ k, zz zn TT3_2 k → k ≠ b2) ∧ (∀ k, zz zn TT3_2 k → k ≠ b4) ∧ (∀ k, zz zn TT3_2 k → ob so3_1 k → False) ∧ (∀ k, zz zn TT3_2 k → ob so3_2 k → False) ∧ (∀ k, ob so3_1 k → ob so3_2 k → False) ∧ (∀ k, zz zn TT3_1 k → zz zn TT3_2 k → False) ∧ (j ≤ g.ins.length)) _ ⟨0, vs, sq3, cq3, so2_2, co2_2, (fun k => TT2_1 k ∨ (Iv w6.heap.size w7.heap.size) k), TT2_2, rfl, rfl, Bs3, (BA3_2.ne Es3 (by omega)), (BA3_4.ne Es3 (by omega)), (ow3.ne Es3 (fun h => ne3_1 _ h rfl)), ge3, ne3_1, ne3_2, ne3_4, (oA3_2.ne Es3 (fun h => ne2L_2_1 _ h rfl)), ge2L_2, ne2L_2_1, ne2L_2_2, nb2, (tw7.fr Es3 (fun k hk h => tn7_1 k hk h)), tg7, tn7_1, tn7_2, tn7_4, ts7_1, ts7_2, (by rw [List.take_zero, List.map_nil, List.append_nil]; exact (((((tw2L_2.ext Eb4).fr Es2 (fun k hk h => nb4 k hk h)).ext E1).fr EA3 (fun k hk h => ts2L_2_1 k hk h)).fr Es3 (fun k hk h => tn2L_2_1 k hk h))), tg2L_2, tn2L_2_1, tn2L_2_2, nb4, sa3_2, ts2L_2_2, sp3_2, tt7_2, by omega⟩ ?_
   rintro n3 ρ3 w10 A3 EL3 ⟨j, vs2, so3_1, co3_1, so3_2, co3_2, TT3_1, TT3_2, rfl, hs3_56, BL3_1, BL3_2, BL3_4, ow3L_1, ge3L_1, ne3L_1_1, ne3L_1_2, ne3L_1_4, ow3L_2, ge3L_2, ne3L_2_1, ne3L_2_2, ne3L_2_4, tw3L_1, tg3L_1, tn3L_1_1, tn3L_1_2, tn3L_1_4, ts3L_1_1, ts3L_1_2, tw3L_2, tg3L_2, tn3L_2_1, tn3L_2_2, tn3L_2_4, ts3L_2_1, ts3L_2_2, sp3L_1_2, tt3L_1_2, hj⟩
   have F13 := F12.wide EL3
   have hzL3 := EL3.size
   refine wk_seq ?_
   refine wk_region ?_
   refine lx_value (want rfl) (rn_lss hs3_56 (A3.at 55 rfl rfl)) ?_
   refine lx_dec (fun hlt1 => ?_) (fun hlt1 => ?_)
   ·
    obtain ⟨y, hy⟩ := getx hlt1
    obtain ⟨hyb, hyo⟩ := hgo hy
    have hyd := smallI_at hgs.2.1 hy
    obtain ⟨by_, oy, hsy, hFy, so, co, hcy, hco⟩ := hins j y hy
    subst hsy
    refine lx_nil ?_
    refine wk_seq ?_
    refine wk_cond_t rfl ?_
    refine wk_skip ?_
    refine wk_seq ?_
    refine wk_block ?_
    refine wk_seq ?_
    refine wk_region ?_
    refine lx_value (want rfl) (rn_index _ Tryz.underlying33 sz_73 (A3.at 54 rfl rfl) hs3_56 rfl (by omega)) ?_
    refine lx_value (want rfl) (rn_loadN ag_73 sz_73 rfl rfl (hcy.fr F13 (fun h => h))) ?_
    refine lx_new (want rfl) (rn_alloc ze_73) ?_
    intro b5 w11 hb5 Eb5 B5 hlb5
    have F14 := F13.ext Eb5
    have hzb5 := Eb5.size
    have nb5 : ∀ k, ob so3_1 k → k ≠ b5 := fun k hk => by have := (ow3L_1).lt hk; omega
    have nb6 : ∀ k, ob so3_2 k → k ≠ b5 := fun k hk => by have := (ow3L_2).lt hk; omega
    have nb7 : ∀ k, zz zn TT3_1 k → k ≠ b5 := fun k hk => by have := (tw3L_1).lt hk; omega
    have nb8 : ∀ k, zz zn TT3_2 k → k ≠ b5 := fun k hk => by have := (tw3L_2).lt hk; omega
    refine lx_set (want rfl) sz_73 rfl (t_agg rfl) rfl rfl rfl B5 (Nat.le_of_ble_eq_true rfl) ?_
    intro w12 Es4 Bs4
    have F15 := F14.set Es4 (by omega)
    have hzs4 := Es4.size
    refine lx_nil ?_
    refine wk_seq ?_
    refine wk_region ?_
    refine lx_value (want rfl) (rn_fieldAddr fa_73_3 rfl) ?_
    refine lx_value (want rfl) (rn_load1Blk ag_71 rfl Bs4 rfl) ?_
    refine lx_value (want rfl) (mv_int (A3.at 8 rfl rfl)) ?_
    refine lx_call (want rfl) (ent_func cf_120 (argsC (t_slice rfl) (argsC (t_int rfl) args0))) (copied_ct y.outs so co F (B : Int) (by omega) hyd hyb w12 (hco.fr (dd_stab F) F15 (fun _ _ h => h))) ?_
    rintro _ w13 E2 ⟨sN, cN, rfl, hDN2⟩
    have F16 := F15.ext E2
    have hz2 := E2.size
    have hd2 := DZ.of hDN2
    have hd2i := fun (k : Nat) (hk : zz zn (Iv w12.heap.size w13.heap.size) k) => (Or.inr hk.1 : zz none (fun _ => False) k ∨ w12.heap.size ≤ k)
    have tg9 : ∀ k, zz zn (Iv w12.heap.size w13.heap.size) k → w0.heap.size ≤ k := fun k hk => (hd2i k hk).elim ((fun _ h => zz_nil h) k) (fun h => by omega)
    have tn9_1 : ∀ k, zz zn (Iv w12.heap.size w13.heap.size) k → k ≠ b1 := fun k hk => (hd2i k hk).elim ((fun _ h => zz_nil h) k) (fun h => by have := (BL3_1).lt; omega)
    have tn9_2 : ∀ k, zz zn (Iv w12.heap.size w13.heap.size) k → k ≠ b2 := fun k hk => (hd2i k hk).elim ((fun _ h => zz_nil h) k) (fun h => by have := (BL3_2).lt; omega)
    have tn9_4 : ∀ k, zz zn (Iv w12.heap.size w13.heap.size) k → k ≠ b4 := fun k hk => (hd2i k hk).elim ((fun _ h => zz_nil h) k) (fun h => by have := (BL3_4).lt; omega)
    have tn9_5 : ∀ k, zz zn (Iv w12.heap.size w13.heap.size) k → k ≠ b5 := fun k hk => (hd2i k hk).elim ((fun _ h => zz_nil h) k) (fun h => by have := (Bs4).lt; omega)
    have ts9_1 : ∀ k, zz zn (Iv w12.heap.size w13.heap.size) k → ob so3_1 k → False := fun k hk h2 => (hd2i k hk).elim (fun h => (fun _ h _ => zz_nil h) k h h2) (fun h => by have := (ow3L_1).lt h2; omega)
    have ts9_2 : ∀ k, zz zn (Iv w12.heap.size w13.heap.size) k → ob so3_2 k → False := fun k hk h2 => (hd2i k hk).elim (fun h => (fun _ h _ => zz_nil h) k h h2) (fun h => by have := (ow3L_2).lt h2; omega)
    have tt9_1 : ∀ k, zz zn (Iv w12.heap.size w13.heap.size) k → zz zn TT3_1 k → False := fun k hk h2 => (hd2i k hk).elim (fun h => (fun _ h _ => zz_nil h) k h h2) (fun h => by have := (tw3L_1).lt (k := k) h2; omega)
    have tt9_2 : ∀ k, zz zn (Iv w12.heap.size w13.heap.size) k → zz zn TT3_2 k → False := fun k hk h2 => (hd2i k hk).elim (fun h => (fun _ h _ => zz_nil h) k h h2) (fun h => by have := (tw3L_2).lt (k := k) h2; omega)
    refine lx_value (want rfl) (rn_fieldAddr fa_73_3 rfl) ?_
    refine lx_set (want rfl) sz_71 rfl (t_slice rfl) rfl rfl rfl (Bs4.ext E2) (Nat.le_of_ble_eq_true rfl) ?_
    intro w14 Es5 Bs5
    have F17 := F16.set Es5 (by omega)
    have hzs5 := Es5.size
    refine lx_nil ?_
    refine wk_seq ?_
    refine wk_seq ?_
    refine wk_region ?_
    refine lx_value (want rfl) (rn_fieldAddr fa_73_0 rfl) ?_
    refine lx_value (want rfl) (rn_load1Blk ag_5 rfl Bs5 rfl) ?_
    refine lx_value (want rfl) (rn_eql rfl rfl) ?_
    refine lx_dec (fun h20 => ?_) (fun h20 => ?_)
    ·
     have hsI := placeI_20 (l := l) (b := B) h20
     have hcal := (Bool.and_eq_true_iff.1 (okN_at hyo h20)).1
     refine lx_nil ?_
     refine wk_cond_t rfl ?_
     refine wk_region ?_
     refine lx_value (want rfl) (mv_map (A3.at 3 rfl (A2.at 3 rfl (A1.at 3 rfl rfl)))) ?_
     refine lx_value (want rfl) (rn_fieldAddr fa_73_1 rfl) ?_
     refine lx_value (want rfl) (rn_load1Blk ag_9 rfl Bs5 rfl) ?_
     refine lx_value (v := .int .i64 (idxN l y.nm)) (want rfl) ((by rw [← idx_get hcal]; exact rn_lookL (k := y.nm) mv_185.g rfl rfl ((((BL3_2.ext Eb5).ne Es4 (by omega)).ext E2).ne Es5 (by omega)))) ?_
     refine lx_value (want rfl) (rn_fieldAddr fa_73_2 rfl) ?_
     refine lx_set (want rfl) sz_3 rfl (t_int rfl) rfl rfl rfl Bs5 (Nat.le_of_ble_eq_true rfl) ?_
     intro w15 Es6 Bs6
     have F18 := F17.set Es6 (by omega)
     have hzs6 := Es6.size
     refine lx_value (want rfl) (rn_fieldAddr fa_73_1 rfl) ?_
     refine lx_set (want rfl) sz_9 rfl (t_string rfl) rfl rfl rfl Bs6 (Nat.le_of_ble_eq_true rfl) ?_
     intro w16 Es7 Bs7
     have F19 := F18.set Es7 (by omega)
     have hzs7 := Es7.size
     refine lx_nil ?_
     refine wk_region ?_
     refine lx_value (want rfl) (rn_fieldAddr fa_35_1 (A3.at 2 rfl (A2.at 2 rfl (A1.at 2 rfl rfl)))) ?_
     refine lx_value (want rfl) (rn_load1Blk ag_33 rfl ((((((BL3_1.ext Eb5).ne Es4 (by omega)).ext E2).ne Es5 (by omega)).ne Es6 (by omega)).ne Es7 (by omega)) rfl) ?_
     refine lx_value (want rfl) (rn_loadBlk ag_73 sz_73 rfl Bs7 rfl rfl) ?_
     refine lx_newS (want rfl) (rn_bslice (xs := [.tmp 76]) Tryz.underlying33 sz_73 ze_73 rfl (argsC (t_agg rfl) args0) (CL.cons rfl rfl CL.nil) rfl (Nat.le_of_ble_eq_true rfl)) ?_
     intro b6 w17 hb6 Eb6 B6 hlb6
     have F20 := F19.ext Eb6
     have hzb6 := Eb6.size
     have nb9 : ∀ k, ob so3_1 k → k ≠ b6 := fun k hk => by have := (ow3L_1).lt hk; omega
     have nb10 : ∀ k, ob so3_2 k → k ≠ b6 := fun k hk => by have := (ow3L_2).lt hk; omega
     have nb11 : ∀ k, zz zn TT3_1 k → k ≠ b6 := fun k hk => by have := (tw3L_1).lt hk; omega
     have nb12 : ∀ k, zz zn TT3_2 k → k ≠ b6 := fun k hk => by have := (tw3L_2).lt hk; omega
     have nb13 : ∀ k, zz zn (Iv w12.heap.size w13.heap.size) k → k ≠ b6 := fun k hk => by have := (hd2).lt hk; omega
     refine lx_append 56 (want rfl) Tryz.underlying33 ti_73 (by decide) rfl (by decide) rfl rfl (((((((ow3L_2.ext Eb5).ne Es4 (fun h => nb6 _ h rfl)).ext E2).ne Es5 (fun h => nb6 _ h rfl)).ne Es6 (fun h => nb6 _ h rfl)).ne Es7 (fun h => nb6 _ h rfl)).ext Eb6) ((Src.blk B6 rfl rfl)) (by omega) ?_
     intro sq4 cq4 w18 AP4
     have EA4 := AP4.fr
     have ow4 := AP4.own
     have ge4 : ∀ k, ob sq4 k → w0.heap.size ≤ k := fun k hk => (AP4.blk k hk).elim (ge3L_2 k) (fun h => (Nat.le_trans F20.size h))
     have ne4_1 : ∀ k, ob sq4 k → k ≠ b1 := fun k hk => (AP4.blk k hk).elim (ne3L_2_1 k) (fun h => by have := ((((((((BL3_1.ext Eb5).ne Es4 (by omega)).ext E2).ne Es5 (by omega)).ne Es6 (by omega)).ne Es7 (by omega)).ext Eb6)).lt; omega)
     have ne4_2 : ∀ k, ob sq4 k → k ≠ b2 := fun k hk => (AP4.blk k hk).elim (ne3L_2_2 k) (fun h => by have := ((((((((BL3_2.ext Eb5).ne Es4 (by omega)).ext E2).ne Es5 (by omega)).ne Es6 (by omega)).ne Es7 (by omega)).ext Eb6)).lt; omega)
     have ne4_4 : ∀ k, ob sq4 k → k ≠ b4 := fun k hk => (AP4.blk k hk).elim (ne3L_2_4 k) (fun h => by have := ((((((((BL3_4.ext Eb5).ne Es4 (by omega)).ext E2).ne Es5 (by omega)).ne Es6 (by omega)).ne Es7 (by omega)).ext Eb6)).lt; omega)
     have ne4_5 : ∀ k, ob sq4 k → k ≠ b5 := fun k hk => (AP4.blk k hk).elim (nb6 k) (fun h => by have := ((Bs7.ext Eb6)).lt; omega)
     have ne4_6 : ∀ k, ob sq4 k → k ≠ b6 := fun k hk => (AP4.blk k hk).elim (nb10 k) (fun h => by have := (B6).lt; omega)
     have sp4_1 : ∀ k, ob sq4 k → ob so3_1 k → False := fun k hk h2 => (AP4.blk k hk).elim (fun h => (fun k h1 h2 => sp3L_1_2 k h2 h1) k h h2) (fun h => by have := ((((((((ow3L_1.ext Eb5).ne Es4 (fun h => nb5 _ h rfl)).ext E2).ne Es5 (fun h => nb5 _ h rfl)).ne Es6 (fun h => nb5 _ h rfl)).ne Es7 (fun h => nb5 _ h rfl)).ext Eb6)).lt h2; omega)
     have F21 := F20.new EA4 ge3L_2
     have hzA4 := EA4.size
     have BA4_1 := (((((((BL3_1.ext Eb5).ne Es4 (by omega)).ext E2).ne Es5 (by omega)).ne Es6 (by omega)).ne Es7 (by omega)).ext Eb6).fr EA4 (fun h => ne3L_2_1 _ h rfl)
     have BA4_2 := (((((((BL3_2.ext Eb5).ne Es4 (by omega)).ext E2).ne Es5 (by omega)).ne Es6 (by omega)).ne Es7 (by omega)).ext Eb6).fr EA4 (fun h => ne3L_2_2 _ h rfl)
     have BA4_4 := (((((((BL3_4.ext Eb5).ne Es4 (by omega)).ext E2).ne Es5 (by omega)).ne Es6 (by omega)).ne Es7 (by omega)).ext Eb6).fr EA4 (fun h => ne3L_2_4 _ h rfl)
     have BA4_5 := (Bs7.ext Eb6).fr EA4 (fun h => nb6 _ h rfl)
     have BA4_6 := B6.fr EA4 (fun h => nb10 _ h rfl)
     have oA4_1 := (((((((ow3L_1.ext Eb5).ne Es4 (fun h => nb5 _ h rfl)).ext E2).ne Es5 (fun h => nb5 _ h rfl)).ne Es6 (fun h => nb5 _ h rfl)).ne Es7 (fun h => nb5 _ h rfl)).ext Eb6).fr EA4 (fun k h1 h2 => (fun k h1 h2 => sp3L_1_2 k h2 h1) k h2 h1)
     have sr4_1 : ∀ k, ob so3_1 k → ob sq4 k → False := fun k h1 h2 => sp4_1 k h2 h1
     have sa4_1 : ∀ k, zz zn TT3_1 k → ob sq4 k → False := fun k hk h2 => (AP4.blk k h2).elim (fun h => ts3L_1_2 k hk h) (fun h => by have := ((((((((tw3L_1.ext Eb5).fr Es4 (fun k hk h => nb7 k hk h)).ext E2).fr Es5 (fun k hk h => nb7 k hk h)).fr Es6 (fun k hk h => nb7 k hk h)).fr Es7 (fun k hk h => nb7 k hk h)).ext Eb6)).lt hk; omega)
     have sa4_2 : ∀ k, zz zn TT3_2 k → ob sq4 k → False := fun k hk h2 => (AP4.blk k h2).elim (fun h => ts3L_2_2 k hk h) (fun h => by have := ((((((((tw3L_2.ext Eb5).fr Es4 (fun k hk h => nb8 k hk h)).ext E2).fr Es5 (fun k hk h => nb8 k hk h)).fr Es6 (fun k hk h => nb8 k hk h)).fr Es7 (fun k hk h => nb8 k hk h)).ext Eb6)).lt hk; omega)
     have sa4_3 : ∀ k, zz zn (Iv w12.heap.size w13.heap.size) k → ob sq4 k → False := fun k hk h2 => (AP4.blk k h2).elim (fun h => ts9_2 k hk h) (fun h => by have := (((((hd2.fr Es5 (fun k hk h => tn9_5 k hk h)).fr Es6 (fun k hk h => tn9_5 k hk h)).fr Es7 (fun k hk h => tn9_5 k hk h)).ext Eb6)).lt hk; omega)
     have tw10 := (by have h := (((((((((tw3L_2.ext Eb5).fr Es4 (fun k hk h => nb8 k hk h)).ext E2).fr Es5 (fun k hk h => nb8 k hk h)).fr Es6 (fun k hk h => nb8 k hk h)).fr Es7 (fun k hk h => nb8 k hk h)).ext Eb6).fr EA4 (fun k hk h => ts3L_2_2 k hk h))).snoc (a := inL (placeI l B y) sN cN) (x := placeI l B y) (show QI _ _ _ _ from ⟨sN, cN, rfl, by rw [hsI]; exact ((((((hd2.fr Es5 (fun k hk h => tn9_5 k hk h)).fr Es6 (fun k hk h => tn9_5 k hk h)).fr Es7 (fun k hk h => tn9_5 k hk h)).ext Eb6).fr EA4 (fun k hk h => ts9_2 k hk h))).1⟩) (fun k hk => ((((((hd2.fr Es5 (fun k hk h => tn9_5 k hk h)).fr Es6 (fun k hk h => tn9_5 k hk h)).fr Es7 (fun k hk h => tn9_5 k hk h)).ext Eb6).fr EA4 (fun k hk h => ts9_2 k hk h))).lt hk); rwa [List.append_assoc, map_step hy] at h)
     have tg10 : ∀ k, zz zn (fun k => TT3_2 k ∨ (Iv w12.heap.size w13.heap.size) k) k → w0.heap.size ≤ k := fun k => (fun h => h.elim (fun h => tg3L_2 k h) (fun h => tg9 k h))
     have tn10_1 : ∀ k, zz zn (fun k => TT3_2 k ∨ (Iv w12.heap.size w13.heap.size) k) k → k ≠ b1 := fun k => (fun h => h.elim (fun h => tn3L_2_1 k h) (fun h => tn9_1 k h))
     have tn10_2 : ∀ k, zz zn (fun k => TT3_2 k ∨ (Iv w12.heap.size w13.heap.size) k) k → k ≠ b2 := fun k => (fun h => h.elim (fun h => tn3L_2_2 k h) (fun h => tn9_2 k h))
     have tn10_4 : ∀ k, zz zn (fun k => TT3_2 k ∨ (Iv w12.heap.size w13.heap.size) k) k → k ≠ b4 := fun k => (fun h => h.elim (fun h => tn3L_2_4 k h) (fun h => tn9_4 k h))
     have tn10_5 : ∀ k, zz zn (fun k => TT3_2 k ∨ (Iv w12.heap.size w13.heap.size) k) k → k ≠ b5 := fun k => (fun h => h.elim (fun h => nb8 k h) (fun h => tn9_5 k h))
     have tn10_6 : ∀ k, zz zn (fun k => TT3_2 k ∨ (Iv w12.heap.size w13.heap.size) k) k → k ≠ b6 := fun k => (fun h => h.elim (fun h => nb12 k h) (fun h => nb13 k h))
     have ts10_1 : ∀ k, zz zn (fun k => TT3_2 k ∨ (Iv w12.heap.size w13.heap.size) k) k → ob so3_1 k → False := fun k h0 h2 => (fun h => h.elim (fun h => ts3L_2_1 k h h2) (fun h => ts9_1 k h h2)) h0
     have ts10_2 : ∀ k, zz zn (fun k => TT3_2 k ∨ (Iv w12.heap.size w13.heap.size) k) k → ob sq4 k → False := fun k h0 h2 => (fun h => h.elim (fun h => sa4_2 k h h2) (fun h => sa4_3 k h h2)) h0
     have tt10_1 : ∀ k, zz zn (fun k => TT3_2 k ∨ (Iv w12.heap.size w13.heap.size) k) k → zz zn TT3_1 k → False := fun k h0 h2 => (fun h => h.elim (fun h => (fun k h1 h2 => tt3L_1_2 k h2 h1) k h h2) (fun h => tt9_1 k h h2)) h0
     refine lx_value (want rfl) (rn_fieldAddr fa_35_1 (A3.at 2 rfl (A2.at 2 rfl (A1.at 2 rfl rfl)))) ?_
     refine lx_set (want rfl) sz_33 rfl (t_slice rfl) rfl rfl rfl BA4_1 (Nat.le_of_ble_eq_true rfl) ?_
     intro w19 Es8 Bs8
     have F22 := F21.set Es8 (by omega)
     have hzs8 := Es8.size
     refine lx_nil ?_
     refine wk_region ?_
     refine lx_value (want rfl) (rn_add hs3_56 rfl (by omega)) ?_
     refine lx_value (want rfl) (mv_int rfl) ?_
     refine lx_nil ?_
     exact ⟨rfl, (((((((((((((((((((((((((((((((A3.up rfl _).up rfl _).up rfl _).up rfl _).none _).up rfl _).up rfl _).up rfl _).up rfl _).up rfl _).none _).up rfl _).up rfl _).up rfl _).up rfl _).up rfl _).up rfl _).up rfl _).up rfl _).none _).up rfl _).none _).up rfl _).up rfl _).up rfl _).up rfl _).up rfl _).up rfl _).none _).up rfl _).up rfl _), Fr.between F12 F22 (by omega), _, (by omega), j + 1, (vs2 ++ inL (placeI l B y) sN cN), so3_1, co3_1, sq4, cq4, TT3_1, (fun k => TT3_2 k ∨ (Iv w12.heap.size w13.heap.size) k), rfl, rfl, Bs8, (BA4_2.ne Es8 (by omega)), (BA4_4.ne Es8 (by omega)), (oA4_1.ne Es8 (fun h => ne3L_1_1 _ h rfl)), ge3L_1, ne3L_1_1, ne3L_1_2, ne3L_1_4, (by rw [hsI]; exact (ow4.ne Es8 (fun h => ne4_1 _ h rfl))), ge4, ne4_1, ne4_2, ne4_4, (((((((((tw3L_1.ext Eb5).fr Es4 (fun k hk h => nb7 k hk h)).ext E2).fr Es5 (fun k hk h => nb7 k hk h)).fr Es6 (fun k hk h => nb7 k hk h)).fr Es7 (fun k hk h => nb7 k hk h)).ext Eb6).fr EA4 (fun k hk h => ts3L_1_2 k hk h)).fr Es8 (fun k hk h => tn3L_1_1 k hk h)), tg3L_1, tn3L_1_1, tn3L_1_2, tn3L_1_4, ts3L_1_1, sa4_1, (tw10.fr Es8 (fun k hk h => tn10_1 k hk h)), tg10, tn10_1, tn10_2, tn10_4, ts10_1, ts10_2, sr4_1, (fun k h1 h2 => tt10_1 k h2 h1), by omega⟩
    ·
     have hsI := placeI_no (l := l) (b := B) h20
     refine lx_nil ?_
     refine wk_cond_f rfl ?_
     refine wk_skip ?_
     refine wk_region ?_
     refine lx_value (want rfl) (rn_fieldAddr fa_35_1 (A3.at 2 rfl (A2.at 2 rfl (A1.at 2 rfl rfl)))) ?_
     refine lx_value (want rfl) (rn_load1Blk ag_33 rfl ((((BL3_1.ext Eb5).ne Es4 (by omega)).ext E2).ne Es5 (by omega)) rfl) ?_
     refine lx_value (want rfl) (rn_loadBlk ag_73 sz_73 rfl Bs5 rfl rfl) ?_
     refine lx_newS (want rfl) (rn_bslice (xs := [.tmp 76]) Tryz.underlying33 sz_73 ze_73 rfl (argsC (t_agg rfl) args0) (CL.cons rfl rfl CL.nil) rfl (Nat.le_of_ble_eq_true rfl)) ?_
     intro b7 w15 hb7 Eb7 B7 hlb7
     have F23 := F17.ext Eb7
     have hzb7 := Eb7.size
     have nb14 : ∀ k, ob so3_1 k → k ≠ b7 := fun k hk => by have := (ow3L_1).lt hk; omega
     have nb15 : ∀ k, ob so3_2 k → k ≠ b7 := fun k hk => by have := (ow3L_2).lt hk; omega
     have nb16 : ∀ k, zz zn TT3_1 k → k ≠ b7 := fun k hk => by have := (tw3L_1).lt hk; omega
     have nb17 : ∀ k, zz zn TT3_2 k → k ≠ b7 := fun k hk => by have := (tw3L_2).lt hk; omega
     have nb18 : ∀ k, zz zn (Iv w12.heap.size w13.heap.size) k → k ≠ b7 := fun k hk => by have := (hd2).lt hk; omega
     refine lx_append 56 (want rfl) Tryz.underlying33 ti_73 (by decide) rfl (by decide) rfl rfl (((((ow3L_2.ext Eb5).ne Es4 (fun h => nb6 _ h rfl)).ext E2).ne Es5 (fun h => nb6 _ h rfl)).ext Eb7) ((Src.blk B7 rfl rfl)) (by omega) ?_
     intro sq5 cq5 w16 AP5
     have EA5 := AP5.fr
     have ow5 := AP5.own
     have ge5 : ∀ k, ob sq5 k → w0.heap.size ≤ k := fun k hk => (AP5.blk k hk).elim (ge3L_2 k) (fun h => (Nat.le_trans F23.size h))
     have ne5_1 : ∀ k, ob sq5 k → k ≠ b1 := fun k hk => (AP5.blk k hk).elim (ne3L_2_1 k) (fun h => by have := ((((((BL3_1.ext Eb5).ne Es4 (by omega)).ext E2).ne Es5 (by omega)).ext Eb7)).lt; omega)
     have ne5_2 : ∀ k, ob sq5 k → k ≠ b2 := fun k hk => (AP5.blk k hk).elim (ne3L_2_2 k) (fun h => by have := ((((((BL3_2.ext Eb5).ne Es4 (by omega)).ext E2).ne Es5 (by omega)).ext Eb7)).lt; omega)
     have ne5_4 : ∀ k, ob sq5 k → k ≠ b4 := fun k hk => (AP5.blk k hk).elim (ne3L_2_4 k) (fun h => by have := ((((((BL3_4.ext Eb5).ne Es4 (by omega)).ext E2).ne Es5 (by omega)).ext Eb7)).lt; omega)
     have ne5_5 : ∀ k, ob sq5 k → k ≠ b5 := fun k hk => (AP5.blk k hk).elim (nb6 k) (fun h => by have := ((Bs5.ext Eb7)).lt; omega)
     have ne5_7 : ∀ k, ob sq5 k → k ≠ b7 := fun k hk => (AP5.blk k hk).elim (nb15 k) (fun h => by have := (B7).lt; omega)
     have sp5_1 : ∀ k, ob sq5 k → ob so3_1 k → False := fun k hk h2 => (AP5.blk k hk).elim (fun h => (fun k h1 h2 => sp3L_1_2 k h2 h1) k h h2) (fun h => by have := ((((((ow3L_1.ext Eb5).ne Es4 (fun h => nb5 _ h rfl)).ext E2).ne Es5 (fun h => nb5 _ h rfl)).ext Eb7)).lt h2; omega)
     have F24 := F23.new EA5 ge3L_2
     have hzA5 := EA5.size
     have BA5_1 := (((((BL3_1.ext Eb5).ne Es4 (by omega)).ext E2).ne Es5 (by omega)).ext Eb7).fr EA5 (fun h => ne3L_2_1 _ h rfl)
     have BA5_2 := (((((BL3_2.ext Eb5).ne Es4 (by omega)).ext E2).ne Es5 (by omega)).ext Eb7).fr EA5 (fun h => ne3L_2_2 _ h rfl)
     have BA5_4 := (((((BL3_4.ext Eb5).ne Es4 (by omega)).ext E2).ne Es5 (by omega)).ext Eb7).fr EA5 (fun h => ne3L_2_4 _ h rfl)
     have BA5_5 := (Bs5.ext Eb7).fr EA5 (fun h => nb6 _ h rfl)
     have BA5_7 := B7.fr EA5 (fun h => nb15 _ h rfl)
     have oA5_1 := (((((ow3L_1.ext Eb5).ne Es4 (fun h => nb5 _ h rfl)).ext E2).ne Es5 (fun h => nb5 _ h rfl)).ext Eb7).fr EA5 (fun k h1 h2 => (fun k h1 h2 => sp3L_1_2 k h2 h1) k h2 h1)
     have sr5_1 : ∀ k, ob so3_1 k → ob sq5 k → False := fun k h1 h2 => sp5_1 k h2 h1
     have sa5_1 : ∀ k, zz zn TT3_1 k → ob sq5 k → False := fun k hk h2 => (AP5.blk k h2).elim (fun h => ts3L_1_2 k hk h) (fun h => by have := ((((((tw3L_1.ext Eb5).fr Es4 (fun k hk h => nb7 k hk h)).ext E2).fr Es5 (fun k hk h => nb7 k hk h)).ext Eb7)).lt hk; omega)
     have sa5_2 : ∀ k, zz zn TT3_2 k → ob sq5 k → False := fun k hk h2 => (AP5.blk k h2).elim (fun h => ts3L_2_2 k hk h) (fun h => by have := ((((((tw3L_2.ext Eb5).fr Es4 (fun k hk h => nb8 k hk h)).ext E2).fr Es5 (fun k hk h => nb8 k hk h)).ext Eb7)).lt hk; omega)
     have sa5_3 : ∀ k, zz zn (Iv w12.heap.size w13.heap.size) k → ob sq5 k → False := fun k hk h2 => (AP5.blk k h2).elim (fun h => ts9_2 k hk h) (fun h => by have := (((hd2.fr Es5 (fun k hk h => tn9_5 k hk h)).ext Eb7)).lt hk; omega)
     have tw11 := (by have h := (((((((tw3L_2.ext Eb5).fr Es4 (fun k hk h => nb8 k hk h)).ext E2).fr Es5 (fun k hk h => nb8 k hk h)).ext Eb7).fr EA5 (fun k hk h => ts3L_2_2 k hk h))).snoc (a := inL (placeI l B y) sN cN) (x := placeI l B y) (show QI _ _ _ _ from ⟨sN, cN, rfl, by rw [hsI]; exact ((((hd2.fr Es5 (fun k hk h => tn9_5 k hk h)).ext Eb7).fr EA5 (fun k hk h => ts9_2 k hk h))).1⟩) (fun k hk => ((((hd2.fr Es5 (fun k hk h => tn9_5 k hk h)).ext Eb7).fr EA5 (fun k hk h => ts9_2 k hk h))).lt hk); rwa [List.append_assoc, map_step hy] at h)
     have tg11 : ∀ k, zz zn (fun k => TT3_2 k ∨ (Iv w12.heap.size w13.heap.size) k) k → w0.heap.size ≤ k := fun k => (fun h => h.elim (fun h => tg3L_2 k h) (fun h => tg9 k h))
     have tn11_1 : ∀ k, zz zn (fun k => TT3_2 k ∨ (Iv w12.heap.size w13.heap.size) k) k → k ≠ b1 := fun k => (fun h => h.elim (fun h => tn3L_2_1 k h) (fun h => tn9_1 k h))
     have tn11_2 : ∀ k, zz zn (fun k => TT3_2 k ∨ (Iv w12.heap.size w13.heap.size) k) k → k ≠ b2 := fun k => (fun h => h.elim (fun h => tn3L_2_2 k h) (fun h => tn9_2 k h))
     have tn11_4 : ∀ k, zz zn (fun k => TT3_2 k ∨ (Iv w12.heap.size w13.heap.size) k) k → k ≠ b4 := fun k => (fun h => h.elim (fun h => tn3L_2_4 k h) (fun h => tn9_4 k h))
     have tn11_5 : ∀ k, zz zn (fun k => TT3_2 k ∨ (Iv w12.heap.size w13.heap.size) k) k → k ≠ b5 := fun k => (fun h => h.elim (fun h => nb8 k h) (fun h => tn9_5 k h))
     have tn11_7 : ∀ k, zz zn (fun k => TT3_2 k ∨ (Iv w12.heap.size w13.heap.size) k) k → k ≠ b7 := fun k => (fun h => h.elim (fun h => nb17 k h) (fun h => nb18 k h))
     have ts11_1 : ∀ k, zz zn (fun k => TT3_2 k ∨ (Iv w12.heap.size w13.heap.size) k) k → ob so3_1 k → False := fun k h0 h2 => (fun h => h.elim (fun h => ts3L_2_1 k h h2) (fun h => ts9_1 k h h2)) h0
     have ts11_2 : ∀ k, zz zn (fun k => TT3_2 k ∨ (Iv w12.heap.size w13.heap.size) k) k → ob sq5 k → False := fun k h0 h2 => (fun h => h.elim (fun h => sa5_2 k h h2) (fun h => sa5_3 k h h2)) h0
     have tt11_1 : ∀ k, zz zn (fun k => TT3_2 k ∨ (Iv w12.heap.size w13.heap.size) k) k → zz zn TT3_1 k → False := fun k h0 h2 => (fun h => h.elim (fun h => (fun k h1 h2 => tt3L_1_2 k h2 h1) k h h2) (fun h => tt9_1 k h h2)) h0
     refine lx_value (want rfl) (rn_fieldAddr fa_35_1 (A3.at 2 rfl (A2.at 2 rfl (A1.at 2 rfl rfl)))) ?_
     refine lx_set (want rfl) sz_33 rfl (t_slice rfl) rfl rfl rfl BA5_1 (Nat.le_of_ble_eq_true rfl) ?_
     intro w17 Es9 Bs9
     have F25 := F24.set Es9 (by omega)
     have hzs9 := Es9.size
     refine lx_nil ?_
     refine wk_region ?_
     refine lx_value (want rfl) (rn_add hs3_56 rfl (by omega)) ?_
     refine lx_value (want rfl) (mv_int rfl) ?_
     refine lx_nil ?_
     exact ⟨rfl, (((((((((((((((((((((((A3.up rfl _).up rfl _).up rfl _).up rfl _).none _).up rfl _).up rfl _).up rfl _).up rfl _).up rfl _).none _).up rfl _).up rfl _).up rfl _).up rfl _).up rfl _).up rfl _).up rfl _).up rfl _).up rfl _).none _).up rfl _).up rfl _), Fr.between F12 F25 (by omega), _, (by omega), j + 1, (vs2 ++ inL (placeI l B y) sN cN), so3_1, co3_1, sq5, cq5, TT3_1, (fun k => TT3_2 k ∨ (Iv w12.heap.size w13.heap.size) k), rfl, rfl, Bs9, (BA5_2.ne Es9 (by omega)), (BA5_4.ne Es9 (by omega)), (oA5_1.ne Es9 (fun h => ne3L_1_1 _ h rfl)), ge3L_1, ne3L_1_1, ne3L_1_2, ne3L_1_4, (by rw [hsI]; exact (ow5.ne Es9 (fun h => ne5_1 _ h rfl))), ge5, ne5_1, ne5_2, ne5_4, (((((((tw3L_1.ext Eb5).fr Es4 (fun k hk h => nb7 k hk h)).ext E2).fr Es5 (fun k hk h => nb7 k hk h)).ext Eb7).fr EA5 (fun k hk h => ts3L_1_2 k hk h)).fr Es9 (fun k hk h => tn3L_1_1 k hk h)), tg3L_1, tn3L_1_1, tn3L_1_2, tn3L_1_4, ts3L_1_1, sa5_1, (tw11.fr Es9 (fun k hk h => tn11_1 k hk h)), tg11, tn11_1, tn11_2, tn11_4, ts11_1, ts11_2, sr5_1, (fun k h1 h2 => tt11_1 k h2 h1), by omega⟩
   ·
    obtain rfl : j = g.ins.length := by omega
    refine lx_nil ?_
    refine wk_seq ?_
    refine wk_cond_f rfl ?_
    refine wk_exit ?_
    refine wk_region ?_
    refine lx_value (want rfl) (rn_add (A3.at 26 rfl hs2_26) rfl (by omega)) ?_
    refine lx_value (want rfl) (mv_int rfl) ?_
    refine lx_nil ?_
    exact ⟨rfl, ((((((((((((((((((((((((((((((((((((((A2.up rfl _).up rfl _).up rfl _).up rfl _).none _).up rfl _).up rfl _).up rfl _).up rfl _).up rfl _).up rfl _).up rfl _).up rfl _).up rfl _).up rfl _).up rfl _).up rfl _).up rfl _).up rfl _).up rfl _).up rfl _).up rfl _).up rfl _).up rfl _).up rfl _).up rfl _).up rfl _).up rfl _).up rfl _).none _).up rfl _).up rfl _).up rfl _).up rfl _).loop A3 rfl).up rfl _).up rfl _).up rfl _), Fr.between F3 F13 (by omega), _, (by omega), i + 1, (B + g.ins.length), (us ++ slL (placeT g B) s48 c48), vs2, so3_1, co3_1, so3_2, co3_2, TT3_1, TT3_2, rfl, rfl, BL3_1, (by first | exact mapL_all hlt0 BL3_2 | exact BL3_2), ow3L_1, ge3L_1, ne3L_1_1, ne3L_1_2, ow3L_2, ge3L_2, ne3L_2_1, ne3L_2_2, tw3L_1, tg3L_1, tn3L_1_1, tn3L_1_2, ts3L_1_1, ts3L_1_2, (by have h := tw3L_2; rwa [List.take_length, ← hpc] at h), tg3L_2, tn3L_2_1, tn3L_2_2, ts3L_2_1, ts3L_2_2, sp3L_1_2, tt3L_1_2, by omega, (by rw [hpc, List.length_append, List.length_map, ← hB])⟩
  ·
   refine lx_nil ?_
   refine wk_seq ?_
   refine wk_cond_f rfl ?_
   refine wk_exit ?_
   refine wk_seq ?_
   refine wk_region ?_
   refine lx_value (want rfl) (rn_loadBlk ag_35 sz_35 (A2.at 2 rfl (A1.at 2 rfl rfl)) BL2_1 rfl rfl) ?_
   refine lx_set (want rfl) sz_35 (A2.at 2 rfl (A1.at 2 rfl rfl)) (t_agg rfl) rfl rfl rfl BL2_1 (Nat.le_of_ble_eq_true rfl) ?_
   intro w5 Es10 Bs10
   have F26 := F7.set Es10 (by omega)
   have hzs10 := Es10.size
   refine lx_nil ?_
   refine wk_ret ?_
   refine retR1 Tryz.results85 (.cell (A2.at 2 rfl (A1.at 2 rfl rfl)) (run_loadVar_blk ag_35 sz_35 Bs10 rfl rfl)) F26 ?_
   obtain rfl : i = l.length := by omega
   have hT1 := (tw2L_1.fr Es10 (fun k hk h => tn2L_1_1 k hk h)); have hT2 := (tw2L_2.fr Es10 (fun k hk h => tn2L_2_1 k hk h)); rw [List.take_length] at hT1 hT2 hB
   subst hB
   exact ⟨so2_1, co2_1, so2_2, co2_2, by rw [show (placeL l).slots.length = l.length from placeS_len l 0]; rfl, ql_sl hT1 (ow2L_1.ne Es10 (fun h => ne2L_1_1 _ h rfl)) (fun k hk => ⟨tg2L_1 k hk, hT1.lt hk⟩) (fun k hk => ⟨ge2L_1 k hk, ((ow2L_1.ne Es10 (fun h => ne2L_1_1 _ h rfl))).lt hk⟩), qi_sl hT2 (ow2L_2.ne Es10 (fun h => ne2L_2_1 _ h rfl)) (fun k hk => ⟨tg2L_2 k hk, hT2.lt hk⟩) (fun k hk => ⟨ge2L_2 k hk, ((ow2L_2.ne Es10 (fun h => ne2L_2_1 _ h rfl))).lt hk⟩), own_cap (ow2L_2.ne Es10 (fun h => ne2L_2_1 _ h rfl))⟩

theorem named_ct (F : Nat → Prop) (l : List Sg) (b : Nat) (x : Ins) (so : Option Addr) (co : Nat) (hsm : smallG l = true) (hok : nmdB l x = true) (w0 : World) (hp : PrgO F w0 b l) :
  CT Tryz.prog 160 [.pointer (some ⟨b, 0, none⟩), .agg #[.int .u8 x.op, .string x.nm, .int .i64 x.n, .slice so x.outs.length co]] w0 no (fun v w => ∃ ss cs si ci, v = .tuple #[.agg #[.string (callee0 l x.nm).nm, .int .i64 ((callee0 l x.nm).ex : Nat), .slice ss (callee0 l x.nm).st.length cs, .slice si (callee0 l x.nm).ins.length ci], .bool true] ∧ GRd F w (callee0 l x.nm) ss si ci) := by
 obtain ⟨hokS, hokL⟩ := Bool.and_eq_true_iff.1 hok
 obtain ⟨n, hln, hat⟩ := callee_at hokS
 obtain ⟨sl, cl, ba, bs, hB, hA, hSh, hL, hFb, hFa, hFs⟩ := hp
 have hnl := (List.getElem?_eq_some_iff.1 hln).1
 have hl1 := smallG_len hsm
 obtain ⟨bx, ox, rfl, _, ss, cs, si, ci, hcx, hst, hins, hroom⟩ := hL n _ hln
 have hsg := smallG_at hsm hln
 have hlpE : isLoopB (callee0 l x.nm).ins = decide (x.n = 1) := by simpa using hokL
 have F0 := Fr.refl no w0
 refine ct_body Tryz.func160 rfl Tryz.ntmps160 (Nat.le_of_ble_eq_true rfl) ?_
 refine wk_seq ?_
 refine wk_region ?_
 refine lx_new (want rfl) (rn_box (t_agg rfl)) ?_
 intro b21 w1 hb21 Eb21 B21 hlb21
 have F1 := F0.ext Eb21
 have hzb21 := Eb21.size
 refine lx_new (want rfl) (rn_alloc ze_181) ?_
 intro b22 w2 hb22 Eb22 B22 hlb22
 have F2 := F1.ext Eb22
 have hzb22 := Eb22.size
 refine lx_value (want rfl) (as_bool rfl) ?_
 refine lx_nil ?_
 refine wk_seq ?_
 refine wk_mix 11 (fun _ => .none) (by kernel_rfl) (by kernel_rfl) (fun kS G hk => by cases hk) (fun kS s y G hk => by cases hk) ?_
 simp only [List.take_succ_cons, List.take_zero, List.take_nil, List.drop_succ_cons, List.drop_zero, List.drop_nil]
 refine mx_calm rfl (want rfl) (fun u1 eu1 fu1 => mv_pointer rfl) ?_
 refine mx_calm rfl (want rfl) (fun u2 eu2 fu2 => rn_nilCheck rfl) ?_
 refine mx_calm rfl (want rfl) (fun u3 eu3 fu3 => rn_fieldAddr fa_188_1 rfl) ?_
 refine mx_calm rfl (want rfl) (fun u4 eu4 fu4 => rn_load1Blk ag_185 rfl (((hB.ext Eb21).ext Eb22).ext ((ext_drawn _).trans' eu4)) rfl) ?_
 refine mx_calm rfl (want rfl) (fun u5 eu5 fu5 => rn_fieldAddr fa_73_1 rfl) ?_
 refine mx_calm rfl (want rfl) (fun u6 eu6 fu6 => rn_load1Blk ag_9 rfl ((B21.ext Eb22).ext ((ext_drawn _).trans' eu6)) rfl) ?_
 refine mx_calm (v := .tuple #[.int .i64 (n : Nat), .bool true]) rfl (want rfl) (fun u7 eu7 fu7 => (by rw [← look_some (.int .i64 0) hat]; exact rn_lookLOk (k := x.nm) mv_185.g rfl rfl (hA.fr (F2.ext ((ext_drawn _).trans' eu7)) (fun h => h)))) ?_
 refine mx_calm rfl (want rfl) (fun u8 eu8 fu8 => mv_tuple rfl) ?_
 refine mx_calm rfl (want rfl) (fun u9 eu9 fu9 => rn_extract rfl rfl) ?_
 refine mx_calm rfl (want rfl) (fun u10 eu10 fu10 => rn_extract rfl rfl) ?_
 refine mx_calm rfl (want rfl) (fun u11 eu11 fu11 => as_int rfl) ?_
 refine mx_nil (fun w3 E1' H1 HS => ?_)
 have E1 := (ext_drawn _).trans' E1'
 have F3 := F2.ext E1
 have hz1 := E1.size
 refine lx_value (want rfl) (as_bool rfl) ?_
 refine lx_nil ?_
 refine wk_seq ?_
 refine wk_seq ?_
 refine wk_mix 14 (fun kS => match kS with | 10 => .val (.bool (isLoopB (callee0 l x.nm).ins)) | _ => .none) (by kernel_rfl) (by kernel_rfl) (by intro kS G hk; (try dsimp only at hk); (split at hk) <;> first | (cases hk; done) | (injection hk with hk; subst hk; exact ⟨by intro j hkj I v w w' hR hG; first | exact hG, fun ⟨_, _, _, _, hs⟩ => by (try dsimp only at hs); split at hs <;> cases hs⟩)) (by intro kS s y G hk; (try dsimp only at hk); split at hk <;> cases hk) ?_
 simp only [List.take_succ_cons, List.take_zero, List.take_nil, List.drop_succ_cons, List.drop_zero, List.drop_nil]
 refine mx_calm rfl (want rfl) (fun u12 eu12 fu12 => mv_bool rfl) ?_
 refine mx_calm rfl (want rfl) (fun u13 eu13 fu13 => rn_not rfl) ?_
 refine mx_calm rfl (want rfl) (fun u14 eu14 fu14 => mv_bool rfl) ?_
 refine mx_calm rfl (want_if (j := 2) (d := 20) (x := false) (y := false) rfl rfl (by decide) rfl) (fun u15 eu15 fu15 => mv_pointer rfl) ?_
 refine mx_calm rfl (want_if (j := 2) (d := 20) (x := false) (y := false) rfl rfl (by decide) rfl) (fun u16 eu16 fu16 => rn_nilCheck rfl) ?_
 refine mx_calm rfl (want_if (j := 2) (d := 20) (x := false) (y := false) rfl rfl (by decide) rfl) (fun u17 eu17 fu17 => rn_fieldAddr fa_188_0 rfl) ?_
 refine mx_calm rfl (want_if (j := 2) (d := 20) (x := false) (y := false) rfl rfl (by decide) rfl) (fun u18 eu18 fu18 => rn_load1Blk ag_128 rfl ((((hB.ext Eb21).ext Eb22).ext E1).ext ((ext_drawn _).trans' eu18)) rfl) ?_
 refine mx_calm rfl (want_if (j := 2) (d := 20) (x := false) (y := false) rfl rfl (by decide) rfl) (fun u19 eu19 fu19 => mv_int rfl) ?_
 refine mx_calm rfl (want_if (j := 2) (d := 20) (x := false) (y := false) rfl rfl (by decide) rfl) (fun u20 eu20 fu20 => rn_index n Tryz.underlying128 sz_181 rfl rfl rfl hnl) ?_
 refine mx_calm rfl (want_if (j := 2) (d := 20) (x := false) (y := false) rfl rfl (by decide) rfl) (fun u21 eu21 fu21 => rn_loadN ag_181 sz_181 rfl rfl (hcx.fr (F3.ext ((ext_drawn _).trans' eu21)) (fun h => h))) ?_
 refine mx_val rfl (want_if (j := 2) (d := 20) (x := false) (y := false) rfl rfl (by decide) rfl) (fun u22 eu22 fu22 => do_call (ent_func cf_127 (argsC (t_agg rfl) args0)) (kloop_ct (callee0 l x.nm) ss cs si ci F (smallI_len hsg.2.1) u22 (hins.fr (in_stab F) (F3.ext ((ext_drawn _).trans' eu22)) (fun _ _ h => h))) (fun _ _ E h => ⟨E, h⟩)) ?_
 refine mx_calm rfl (want_if (j := 2) (d := 20) (x := false) (y := false) rfl rfl (by decide) rfl) (fun u23 eu23 fu23 => rn_fieldAddr fa_73_2 rfl) ?_
 refine mx_calm rfl (want_if (j := 2) (d := 20) (x := false) (y := false) rfl rfl (by decide) rfl) (fun u24 eu24 fu24 => rn_load1Blk ag_3 rfl (((B21.ext Eb22).ext E1).ext ((ext_drawn _).trans' eu24)) rfl) ?_
 refine mx_calm rfl (want_if (j := 2) (d := 20) (x := false) (y := false) rfl rfl (by decide) rfl) (fun u25 eu25 fu25 => rn_eql rfl rfl) ?_
 refine mx_nil (fun w4 E2' H2 HS => ?_)
 have E2 := (ext_drawn _).trans' E2'
 have F4 := F3.ext E2
 have hz2 := E2.size
 refine lx_value (want_if (j := 2) (d := 20) (x := false) (y := false) rfl rfl (by decide) rfl) (rn_neqB Tryz.underlying4 rfl rfl) ?_
 refine lx_dec_f ((by rw [hlpE]; simp)) ?_
 refine lx_value (want rfl) (pick_f rfl rfl) ?_
 refine lx_nil ?_
 refine wk_cond_f rfl ?_
 refine wk_skip ?_
 refine wk_seq ?_
 refine wk_region ?_
 refine lx_value (want rfl) (mv_pointer rfl) ?_
 refine lx_value (want rfl) (rn_nilCheck rfl) ?_
 refine lx_value (want rfl) (rn_fieldAddr fa_188_0 rfl) ?_
 refine lx_value (want rfl) (rn_load1Blk ag_128 rfl ((((hB.ext Eb21).ext Eb22).ext E1).ext E2) rfl) ?_
 refine lx_value (want rfl) (mv_int rfl) ?_
 refine lx_value (want rfl) (rn_index n Tryz.underlying128 sz_181 rfl rfl rfl hnl) ?_
 refine lx_value (want rfl) (rn_loadN ag_181 sz_181 rfl rfl (hcx.fr F4 (fun h => h))) ?_
 refine lx_set (want rfl) sz_181 rfl (t_agg rfl) rfl rfl rfl ((B22.ext E1).ext E2) (Nat.le_of_ble_eq_true rfl) ?_
 intro w5 Es1 Bs1
 have F5 := F4.set Es1 (by omega)
 have hzs1 := Es1.size
 refine lx_value (want rfl) (as_bool rfl) ?_
 refine lx_nil ?_
 refine wk_ret ?_
 refine retR2 Tryz.results160 (.cell rfl (run_loadVar_blk ag_181 sz_181 Bs1 rfl rfl)) (.tmp (t_bool rfl)) F5 ?_
 exact ⟨ss, cs, si, ci, rfl, (GRd.mk hst hins hroom).fr F5 (fun _ _ h => h)⟩

end Go.Proofs.YtgnnegfnpgnbbaaGreatDoor

/- What functions compute: work, find, eports, prim1, nodes, alle, alln, allt, ewithin, kloop, oloop, osame, allp. -/
import Derived.Test.YtgnnegfnpgnbbaaGreatDoorHomesFacts
import Derived.Test.YtgnnegfnpgnbbaaGreatDoorHomesPre
import Derived.Test.YtgnnegfnpgnbbaaGreatDoorHomesWalk2
import Derived.Test.YtgnnegfnpgnbbaaGreatDoorHomesWalk3
import Derived.Test.YtgnnegfnpgnbbaaGreatDoorHomesWalk6
set_option maxRecDepth 100000
set_option linter.unusedVariables false
set_option linter.unusedSimpArgs false
namespace Go.Proofs.YtgnnegfnpgnbbaaGreatDoor
open Go Go.RowKit Go.Mix Go.Eng
theorem work_ct (a b : Vl) (ha : intB a) (hb : intB b) (s : Option Addr) (c : Nat) (G : Nat → Prop) (bI : Nat) (w0 : World) (hl : VlS G w0 s [a, b]) (hI : Blk w0 bI [.int .u8 1] 5) :
  CT Tryz.prog 77 [.agg #[.int .i64 2, .slice (some ⟨bI, 0, none⟩) 1 1, .func (.func 100) #[] #[]], .slice s 2 c] w0 no (fun u _ => u = vlV (ltV a b)) := by
 obtain ⟨bv, ov, hsv, _, hca⟩ := hl 0 a rfl
 have hcb := hl 1 b rfl
 subst hsv
 obtain ⟨bv2, ov2, hsv, _, hcb⟩ := hcb
 obtain ⟨rfl, rfl⟩ : bv2 = bv ∧ ov2 = ov := by injection hsv with h; injection h with h1 h2; exact ⟨h1.symm, h2.symm⟩
 have ha1 := ha.1
 have hb1 := hb.1
 have F0 := Fr.refl no w0
 refine ct_body Tryz.func77 rfl Tryz.ntmps77 (Nat.le_of_ble_eq_true rfl) ?_
 refine wk_seq ?_
 refine wk_region ?_
 refine lx_new (want rfl) (rn_box (t_agg rfl)) ?_
 intro b1 w1 hb1 Eb1 B1 hlb1
 have F1 := F0.ext Eb1
 have hzb1 := Eb1.size
 refine lx_new (want rfl) (rn_alloc ze_48) ?_
 intro b2 w2 hb2 Eb2 B2 hlb2
 have F2 := F1.ext Eb2
 have hzb2 := Eb2.size
 refine lx_nil ?_
 refine wk_seq ?_
 refine wk_seq ?_
 refine wk_region ?_
 refine lx_value (want rfl) (mv_slice rfl) ?_
 refine lx_call (want rfl) (ent_func cf_74 (argsC (t_slice rfl) (argsC rfl args0))) (containsv_ct [a, b] _ c G 111 [] (fun _ => false) cf_111 w2 (hl.fr (vl_stab _) F2 (fun _ _ h => h)) (Nat.le_of_ble_eq_true rfl) (fun z w hz E => chole_ct z (ab_int ha hb hz) w)) ?_
 rintro _ w3 E1 rfl
 have F3 := F2.ext E1
 have hz1 := E1.size
 refine lx_b_f (rfl) ?_
 refine lx_nil ?_
 refine wk_cond_f rfl ?_
 refine wk_skip ?_
 refine wk_seq ?_
 refine wk_seq ?_
 refine wk_region ?_
 refine lx_value (want rfl) (mv_slice rfl) ?_
 refine lx_call (want rfl) (ent_func cf_79 (argsC (t_slice rfl) (argsC rfl args0))) (indexv_ct [a, b] _ c G 113 [] (fun _ => false) cf_113 w3 (hl.fr (vl_stab _) F3 (fun _ _ h => h)) (Nat.le_of_ble_eq_true rfl) (fun z w hz E => cbad_ct z (ab_int ha hb hz) w)) ?_
 rintro _ w4 E2 ⟨zB, rfl, hzB⟩
 have F4 := F3.ext E2
 have hz2 := E2.size
 refine lx_value (want rfl) (as_int rfl) ?_
 refine lx_nil ?_
 refine wk_seq ?_
 refine wk_region ?_
 refine lx_value (want rfl) (mv_int rfl) ?_
 refine lx_value (want rfl) (rn_geq rfl rfl) ?_
 refine lx_dec_f (idx_no hzB) ?_
 refine lx_nil ?_
 refine wk_cond_f rfl ?_
 refine wk_skip ?_
 refine wk_seq ?_
 refine wk_mix 12 (fun kS => match kS with | 9 => .any (fun I v w => v = .pointer (some ⟨I.1, 0, none⟩) ∧ w4.heap.size ≤ I.1 ∧ I.1 < I.2 ∧ Blk w I.1 [.int .u8 0, .int .i64 0] 48) | 10 => .any (fun I v w => ∃ b, v = .pointer (some ⟨b, 0, none⟩) ∧ w4.heap.size ≤ b ∧ (I.1 ≤ b ∧ b < I.2) ∧ Blk w b [.int .u8 0, .int .i64 0] 48) | 11 => .sto 6 21 (fun J u w => J.1 < J.2 ∧ Blk w J.1 u.cells.toList 48) | _ => .none) (by kernel_rfl) (by kernel_rfl) (by intro kS G hk; (try dsimp only at hk); (split at hk) <;> first | (cases hk; done) | (injection hk with hk; subst hk; exact ⟨by intro j hkj I v w w' hR hG; first | exact hG | (obtain ⟨b, h1, h2, hI, h3⟩ := hG; exact ⟨b, h1, h2, hI, h3.ext hR⟩) | (obtain ⟨h1, h2, hI, h3⟩ := hG; exact ⟨h1, h2, hI, h3.ext hR⟩), fun _ I v w w' hR hG => by first | exact hG | (obtain ⟨b, h1, h2, hI, h3⟩ := hG; exact ⟨b, h1, h2, hI, h3.fr hR (fun h => h.2 hI)⟩) | (obtain ⟨h1, h2, hI, h3⟩ := hG; exact ⟨h1, h2, hI, h3.fr hR (fun h => h.2 ⟨Nat.le_refl _, hI⟩)⟩)⟩)) (by intro kS s y G hk; (try dsimp only at hk); (split at hk) <;> first | (cases hk; done) | (injection hk with hk1 hk2 hk3; subst hk1; subst hk2; subst hk3; exact ⟨by kernel_rfl, by intro j hkj I v w w' hR hG; exact ⟨hG.1, hG.2.ext hR⟩, fun I v w w' hR hG => ⟨hG.1, hG.2.fr hR (fun h => h.2 ⟨Nat.le_refl _, hG.1⟩)⟩⟩)) ?_
 simp only [List.take_succ_cons, List.take_zero, List.take_nil, List.drop_succ_cons, List.drop_zero, List.drop_nil]
 refine mx_calm rfl (want rfl) (fun u1 eu1 fu1 => mv_slice rfl) ?_
 refine mx_calm rfl (want rfl) (fun u2 eu2 fu2 => rn_index 0 Tryz.underlying53 sz_48 rfl rfl rfl (by decide)) ?_
 refine mx_calm rfl (want rfl) (fun u3 eu3 fu3 => rn_load2 ag_48 sz_48 rfl ((F4.ext ((ext_drawn _).trans' eu3)).cell (fun h => h) (hca 0 _ rfl)) ((F4.ext ((ext_drawn _).trans' eu3)).cell (fun h => h) (hca 1 _ rfl))) ?_
 refine mx_calm rfl (want rfl) (fun u4 eu4 fu4 => mv_slice rfl) ?_
 refine mx_calm rfl (want rfl) (fun u5 eu5 fu5 => mv_slice rfl) ?_
 refine mx_calm rfl (want rfl) (fun u6 eu6 fu6 => rn_len Tryz.underlying53 rfl) ?_
 refine mx_calm rfl (want rfl) (fun u7 eu7 fu7 => rn_sub rfl rfl (by decide)) ?_
 refine mx_calm rfl (want rfl) (fun u8 eu8 fu8 => rn_index 1 Tryz.underlying53 sz_48 rfl rfl rfl (by decide)) ?_
 refine mx_calm rfl (want rfl) (fun u9 eu9 fu9 => rn_load2 ag_48 sz_48 rfl ((F4.ext ((ext_drawn _).trans' eu9)).cell (fun h => h) (hcb 0 _ rfl)) ((F4.ext ((ext_drawn _).trans' eu9)).cell (fun h => h) (hcb 1 _ rfl))) ?_
 refine mx_any rfl rfl (want rfl) (fun u10 eu10 fu10 => (do_new3 (rn_alloc ze_48) (show _ ≤ _ from (((ext_drawn _).trans' eu10)).size)).mono (fun v w' h => ⟨h.1, h.2⟩)) (fun I6 v6 => ?_)
 refine mx_any rfl rfl (want rfl) (fun u11 eu11 fu11 => (do_new2 (rn_alloc ze_48) (show _ ≤ _ from (((ext_drawn _).trans' eu11)).size)).mono (fun v w' h => ⟨h.1, h.2⟩)) (fun I7 v7 => ?_)
 refine mx_sto rfl rfl rfl rfl (want rfl) (fun u12 eu12 fu12 _ => by obtain ⟨rfl, hl6, hi6, hB6⟩ := fu12 6 _ rfl (show (6 : Nat) ∈ _ from by decide); exact (do_sto sz_48 rfl rfl rfl rfl rfl hB6 rfl ⟨Nat.le_refl _, hi6⟩).mono (fun v w' h => ⟨h.1, h.2.1, hi6, h.2.2⟩)) ?_
 refine mx_nil (fun w5 E3' H1 HS => ?_)
 have E3 := (ext_drawn _).trans' E3'
 have F5 := F4.ext E3
 have hz3 := E3.size
 have hI7 := (HS.1 7 _ rfl).2
 have hI6 := (HS.1 6 _ rfl).2
 have hX7_6 := HS.2 7 _ 6 _ rfl rfl (show (7 : Nat) ≠ 6 from by decide)
 simp only at hI7
 simp only at hI6
 simp only at hX7_6
 have g7 := H1 7 _ rfl
 (try dsimp only at g7); obtain ⟨b87, hv7, hbb87, hib87, Bb87⟩ := g7; subst hv7; have hlbb87 := Bb87.lt
 have g6 := H1 6 _ rfl
 obtain ⟨⟨_, hv6, hb6, _, _⟩, hi6, hB6⟩ := g6; subst hv6; have hlb6 := hB6.lt
 refine lx_set (want rfl) sz_48 rfl (t_agg rfl) rfl rfl rfl Bb87 (Nat.le_of_ble_eq_true rfl) ?_
 intro w6 Es1 Bs1
 have F6 := F5.set Es1 (by omega)
 have hzs1 := Es1.size
 refine lx_nil ?_
 refine wk_seq ?_
 refine wk_seq ?_
 refine wk_region ?_
 refine lx_value (want rfl) (rn_fieldAddr fa_48_0 rfl) ?_
 refine lx_value (want rfl) (rn_load1Blk ag_5 rfl (hB6.ne Es1 (by omega)) rfl) ?_
 refine lx_value (want rfl) (rn_fieldAddr fa_48_0 rfl) ?_
 refine lx_value (want rfl) (rn_load1Blk ag_5 rfl Bs1 rfl) ?_
 refine lx_value (want rfl) (rn_neq rfl rfl) ?_
 refine lx_dec_f ((by omega)) ?_
 refine lx_value (want rfl) (mv_bool rfl) ?_
 refine lx_value (want_if (j := 5) (d := 33) (x := false) (y := false) rfl rfl (by decide) rfl) (rn_fieldAddr fa_134_1 rfl) ?_
 refine lx_value (want_if (j := 5) (d := 33) (x := false) (y := false) rfl rfl (by decide) rfl) (rn_load1Blk ag_131 rfl (((((B1.ext Eb2).ext E1).ext E2).ext E3).ne Es1 (by omega)) rfl) ?_
 refine lx_value (want_if (j := 5) (d := 33) (x := false) (y := false) rfl rfl (by decide) rfl) (rn_fieldAddr fa_48_0 rfl) ?_
 refine lx_value (want_if (j := 5) (d := 33) (x := false) (y := false) rfl rfl (by decide) rfl) (rn_load1Blk ag_5 rfl (hB6.ne Es1 (by omega)) rfl) ?_
 refine lx_call (want_if (j := 5) (d := 33) (x := false) (y := false) rfl rfl (by decide) rfl) (ent_func cf_114 (argsC (t_slice rfl) (argsC (t_int rfl) args0))) ((by have h := containsk_ct bI a.1 w6 (by rw [ha1]; exact hI.fr F6 (fun h => h)); exact h)) ?_
 rintro _ w7 E4 rfl
 have F7 := F6.ext E4
 have hz4 := E4.size
 refine lx_value (want_if (j := 5) (d := 33) (x := false) (y := false) rfl rfl (by decide) rfl) (rn_not rfl) ?_
 refine lx_value (want rfl) (pick_f rfl rfl) ?_
 refine lx_nil ?_
 refine wk_cond_f rfl ?_
 refine wk_skip ?_
 refine wk_seq ?_
 refine wk_region ?_
 refine lx_value (want rfl) (rn_fieldAddr fa_134_2 rfl) ?_
 refine lx_value (want rfl) (rn_load1Blk ag_132 rfl ((((((B1.ext Eb2).ext E1).ext E2).ext E3).ne Es1 (by omega)).ext E4) rfl) ?_
 refine lx_value (want rfl) (rn_fieldAddr fa_48_1 rfl) ?_
 refine lx_value (want rfl) (rn_load1Blk ag_3 rfl ((hB6.ne Es1 (by omega)).ext E4) rfl) ?_
 refine lx_value (want rfl) (rn_fieldAddr fa_48_1 rfl) ?_
 refine lx_value (want rfl) (rn_load1Blk ag_3 rfl (Bs1.ext E4) rfl) ?_
 refine lx_call (want rfl) (ent_value cf_100 rfl (argsC (t_int rfl) (argsC (t_int rfl) args0))) (lt_ct _ _ w7) ?_
 rintro _ w8 E5 rfl
 have F8 := F7.ext E5
 have hz5 := E5.size
 refine lx_set (want rfl) sz_48 rfl (t_agg rfl) rfl rfl rfl ((((((B2.ext E1).ext E2).ext E3).ne Es1 (by omega)).ext E4).ext E5) (Nat.le_of_ble_eq_true rfl) ?_
 intro w9 Es2 Bs2
 have F9 := F8.set Es2 (by omega)
 have hzs2 := Es2.size
 refine lx_nil ?_
 refine wk_ret ?_
 refine retR1 Tryz.results77 (.cell rfl (run_loadVar_blk ag_48 sz_48 Bs2 rfl rfl)) F9 ?_
 exact rfl

theorem find_ct (be : Nat) (u0 u1 u5 : Value) (rm : Nat) (La Lb : List Ent) (s1 : Option Addr) (c1 : Nat) (s2 : Option Addr) (c2 : Nat) (G : Nat → Prop) (q : Ds) (h1l : La.length ≤ 1000) (h2l : Lb.length ≤ 1000) (w0 : World) (hB : Blk w0 be (elL u0 u1 rm s1 La.length c1 s2 Lb.length c2 u5) 90) (h1 : EnS G w0 s1 La) (h2 : EnS G w0 s2 Lb) :
  CT Tryz.prog 41 [.pointer (some ⟨be, 0, none⟩), .agg #[.int .i64 q.1, .int .i64 q.2]] w0 no (fun v _ => FindR be La Lb (atP q) v) := by
 have F0 := Fr.refl no w0
 refine ct_body Tryz.func41 rfl Tryz.ntmps41 (Nat.le_of_ble_eq_true rfl) ?_
 refine wk_seq ?_
 refine wk_region ?_
 refine lx_new (want rfl) (rn_box (t_agg rfl)) ?_
 intro b21 w1 hb21 Eb21 B21 hlb21
 have F1 := F0.ext Eb21
 have hzb21 := Eb21.size
 refine lx_value (want rfl) (as_pointer rfl) ?_
 refine lx_value (want rfl) (as_int rfl) ?_
 refine lx_nil ?_
 refine wk_seq ?_
 refine wk_seq ?_
 refine wk_mix 11 (fun kS => match kS with | 8 => .any (fun I v w => ∃ b, v = .slice (some ⟨b, 0, none⟩) 2 2 ∧ w1.heap.size ≤ b ∧ (I.1 ≤ b ∧ b < I.2) ∧ Blk w b [.pointer (some ⟨be, 3, none⟩), .pointer (some ⟨be, 4, none⟩)] 104) | _ => .none) (by kernel_rfl) (by kernel_rfl) (by intro kS G hk; (try dsimp only at hk); (split at hk) <;> first | (cases hk; done) | (injection hk with hk; subst hk; exact ⟨by intro j hkj I v w w' hR hG; first | exact hG | (obtain ⟨b, h1, h2, hI, h3⟩ := hG; exact ⟨b, h1, h2, hI, h3.ext hR⟩), fun ⟨_, _, _, _, hs⟩ => by (try dsimp only at hs); split at hs <;> cases hs⟩)) (by intro kS s y G hk; (try dsimp only at hk); split at hk <;> cases hk) ?_
 simp only [List.take_succ_cons, List.take_zero, List.take_nil, List.drop_succ_cons, List.drop_zero, List.drop_nil]
 refine mx_calm rfl (want rfl) (fun u1 eu1 fu1 => mv_pointer rfl) ?_
 refine mx_calm rfl (want rfl) (fun u2 eu2 fu2 => rn_nilCheck rfl) ?_
 refine mx_calm rfl (want rfl) (fun u3 eu3 fu3 => rn_fieldAddr fa_90_1 rfl) ?_
 refine mx_calm rfl (want rfl) (fun u4 eu4 fu4 => rn_fieldAddr fa_42_1 rfl) ?_
 refine mx_calm rfl (want rfl) (fun u5 eu5 fu5 => mv_pointer rfl) ?_
 refine mx_calm rfl (want rfl) (fun u6 eu6 fu6 => rn_nilCheck rfl) ?_
 refine mx_calm rfl (want rfl) (fun u7 eu7 fu7 => rn_fieldAddr fa_90_1 rfl) ?_
 refine mx_calm rfl (want rfl) (fun u8 eu8 fu8 => rn_fieldAddr fa_42_2 rfl) ?_
 refine mx_any rfl rfl (want rfl) (fun u9 eu9 fu9 => (do_newS2 (rn_bslice (xs := [.tmp 12, .tmp 16]) Tryz.underlying146 sz_104 ze_104 rfl (argsC (t_pointer rfl) (argsC (t_pointer rfl) args0)) (CL.cons rfl rfl (CL.cons rfl rfl CL.nil)) rfl (Nat.le_of_ble_eq_true rfl)) (show _ ≤ _ from (((ext_drawn _).trans' eu9)).size)).mono (fun v w' h => ⟨h.1, h.2⟩)) (fun I17 v17 => ?_)
 refine mx_calm (v := .int .i64 ((2 : Nat) : Int)) rfl (want rfl) (fun u10 eu10 fu10 => by obtain ⟨b17, rfl, _⟩ := fu10 17 _ rfl (show (17 : Nat) ∈ _ from by decide); exact rn_len Tryz.underlying146 rfl) ?_
 refine mx_calm rfl (want rfl) (fun u11 eu11 fu11 => mv_int rfl) ?_
 refine mx_nil (fun w2 E1' H1 HS => ?_)
 have E1 := (ext_drawn _).trans' E1'
 have F2 := F1.ext E1
 have hz1 := E1.size
 have hI17 := (HS.1 17 _ rfl).2
 simp only at hI17
 have g17 := H1 17 _ rfl
 obtain ⟨bS17, rfl, hbbS17, hibS17, hBbS17⟩ := g17
 have hlbS17 := hBbS17.lt
 refine lx_nil ?_
 refine wk_block ?_
 refine wk_loopA [4, 5, 7, 8, 19, 20, 21, 22, 23, 24, 25, 26, 27, 28, 29, 30, 31, 32] (fun j => no j ∨ w0.heap.size ≤ j) (fun nM ρ w => ∃ (i : Nat), nM = 2 - i ∧ ρ 19 = .int .i64 i ∧ Blk w be (cellsOf hB) 90 ∧ Blk w b21 (cellsOf B21) 23 ∧ Blk w bS17 (cellsOf hBbS17) 104 ∧ (i ≤ 2) ∧ (∀ k, k < i → (if k = 0 then La else Lb).any (atP q) = false)) _ ⟨0, rfl, rfl, ((hB.ext Eb21).ext E1), (B21.ext E1), hBbS17, by omega, fun k hk => absurd hk (by omega)⟩ ?_
 rintro n1 ρ1 w3 A1 EL1 ⟨i, rfl, hs1_19, BL1_50, BL1_21, BL1_60, hi, hno⟩
 have F3 := F2.wide EL1
 have hzL1 := EL1.size
 refine wk_seq ?_
 refine wk_region ?_
 refine lx_value (want rfl) (rn_lss hs1_19 (A1.at 18 rfl rfl)) ?_
 refine lx_dec (fun hlt => ?_) (fun hlt => ?_)
 ·
  have hil : (if i = 0 then La else Lb).length ≤ 1000 := by split <;> assumption
  refine lx_nil ?_
  refine wk_seq ?_
  refine wk_cond_t rfl ?_
  refine wk_skip ?_
  refine wk_seq ?_
  refine wk_block ?_
  refine wk_seq ?_
  refine wk_region ?_
  refine lx_value (want rfl) (rn_index _ Tryz.underlying146 sz_104 (A1.at 17 rfl rfl) hs1_19 rfl (by omega)) ?_
  refine lx_value (want rfl) (rn_load1 ag_104 rfl (ptr_two BL1_60 (by omega : i < 2))) ?_
  refine lx_value (want rfl) (as_pointer rfl) ?_
  refine lx_nil ?_
  refine wk_seq ?_
  refine wk_region ?_
  refine lx_value (want rfl) (mv_pointer rfl) ?_
  refine lx_value (want rfl) (rn_nilCheck rfl) ?_
  refine lx_value (want rfl) (rn_load1 ag_39 rfl (el_two BL1_50 (by omega : i < 2))) ?_
  refine lx_value (want rfl) (rn_makeFunc (argsC (t_pointer (A1.at 3 rfl rfl)) args0)) ?_
  refine lx_call (want rfl) (ent_func cf_72 (argsC (t_slice rfl) (argsC (t_func rfl) args0))) (indexe_ct (if i = 0 then La else Lb) (if i = 0 then s1 else s2) (if i = 0 then c1 else c2) G 73 [] [.pointer (some ⟨b21, 0, none⟩)] (atP q) cf_73 w3 ((if_en h1 h2).fr (en_stab _) F3 (fun _ _ h => h)) (by omega) (fun z so co w hz hv E => find1_ct z so co q b21 w (BL1_21.ext E))) ?_
  rintro _ w4 E2 ⟨zI, rfl, hzI⟩
  have F4 := F3.ext E2
  have hz2 := E2.size
  refine lx_value (want rfl) (as_int rfl) ?_
  refine lx_nil ?_
  refine wk_seq ?_
  refine wk_region ?_
  refine lx_value (want rfl) (mv_int rfl) ?_
  refine lx_value (want rfl) (rn_geq rfl rfl) ?_
  refine lx_dec (fun hge => ?_) (fun hge => ?_)
  ·
   refine lx_nil ?_
   refine wk_cond_t rfl ?_
   refine wk_seq ?_
   refine wk_region ?_
   refine lx_value (want rfl) (mv_pointer rfl) ?_
   refine lx_value (want rfl) (mv_int rfl) ?_
   refine lx_value (want rfl) (as_pointer rfl) ?_
   refine lx_value (want rfl) (as_int rfl) ?_
   refine lx_nil ?_
   refine wk_ret ?_
   refine retR2 Tryz.results41 (.tmp (t_pointer rfl)) (.tmp (t_int rfl)) F4 ?_
   exact find_yes hno (by omega) hzI hge
  ·
   refine lx_nil ?_
   refine wk_cond_f rfl ?_
   refine wk_skip ?_
   refine wk_region ?_
   refine lx_value (want rfl) (rn_add hs1_19 rfl (by omega)) ?_
   refine lx_value (want rfl) (mv_int rfl) ?_
   refine lx_nil ?_
   exact ⟨rfl, ((((((((((((((A1.up rfl _).up rfl _).up rfl _).up rfl _).up rfl _).up rfl _).up rfl _).up rfl _).up rfl _).up rfl _).up rfl _).up rfl _).up rfl _).up rfl _), Fr.between F2 F4 (by omega), _, (by omega), i + 1, rfl, rfl, (BL1_50.ext E2), (BL1_21.ext E2), (BL1_60.ext E2), by omega, find_on hno hzI hge⟩
 ·
  refine lx_nil ?_
  refine wk_seq ?_
  refine wk_cond_f rfl ?_
  refine wk_exit ?_
  refine wk_seq ?_
  refine wk_region ?_
  refine lx_value (want rfl) (as_pointer rfl) ?_
  refine lx_value (want rfl) (as_int rfl) ?_
  refine lx_nil ?_
  refine wk_ret ?_
  refine retR2 Tryz.results41 (.tmp (t_pointer rfl)) (.tmp (t_int rfl)) F3 ?_
  exact find_end hno (by omega)

theorem eports_ct (SS : Sto) (sa : Option Addr) (ca : Nat) (sb : Option Addr) (cb : Nat) (F : Nat → Prop) (hsm : smallS SS = true) (at_ : Int) (hpl : placeB SS at_ = true) (w0 : World) (hS : StR F w0 SS sa ca sb cb) :
  CT Tryz.prog 25 [.agg #[.slice sa SS.slots.length ca, .slice sb SS.code.length cb], .int .i64 at_] w0 no (fun v _ => v = .int .i64 (portN (codeAt SS at_))) := by
 obtain ⟨hat, hax⟩ := placeB_at hpl
 have hcl := smallI_len (smallS_code hsm)
 obtain ⟨bx, ox, rfl, _, so, co, hcx, hco⟩ := hS.code _ _ hax
 have F0 := Fr.refl no w0
 refine ct_body Tryz.func25 rfl Tryz.ntmps25 (Nat.le_of_ble_eq_true rfl) ?_
 refine wk_seq ?_
 refine wk_region ?_
 refine lx_new (want rfl) (rn_box (t_agg rfl)) ?_
 intro b1 w1 hb1 Eb1 B1 hlb1
 have F1 := F0.ext Eb1
 have hzb1 := Eb1.size
 refine lx_value (want rfl) (as_int rfl) ?_
 refine lx_nil ?_
 refine wk_seq ?_
 refine wk_region ?_
 refine lx_makeMapL kU (want rfl) ?_
 intro b2 w2 hb2 Eb2 B2
 have F2 := F1.ext Eb2
 have hzb2 := Eb2.size
 have hlb2 := B2.lt
 refine lx_insL (want rfl) mv_97.g rfl rfl (t_int rfl) B2 rfl ?_
 intro w3 Em1 HMEm1
 have F3 := F2.set Em1 (by omega)
 have hzm1 := Em1.size
 refine lx_insL (want rfl) mv_97.g rfl rfl (t_int rfl) HMEm1 rfl ?_
 intro w4 Em2 HMEm2
 have F4 := F3.set Em2 (by omega)
 have hzm2 := Em2.size
 refine lx_insL (want rfl) mv_97.g rfl rfl (t_int rfl) HMEm2 rfl ?_
 intro w5 Em3 HMEm3
 have F5 := F4.set Em3 (by omega)
 have hzm3 := Em3.size
 refine lx_insL (want rfl) mv_97.g rfl rfl (t_int rfl) HMEm3 rfl ?_
 intro w6 Em4 HMEm4
 have F6 := F5.set Em4 (by omega)
 have hzm4 := Em4.size
 refine lx_insL (want rfl) mv_97.g rfl rfl (t_int rfl) HMEm4 rfl ?_
 intro w7 Em5 HMEm5
 have F7 := F6.set Em5 (by omega)
 have hzm5 := Em5.size
 refine lx_insL (want rfl) mv_97.g rfl rfl (t_int rfl) HMEm5 rfl ?_
 intro w8 Em6 HMEm6
 have F8 := F7.set Em6 (by omega)
 have hzm6 := Em6.size
 refine lx_value (want rfl) (mv_map rfl) ?_
 refine lx_value (want rfl) (as_map rfl) ?_
 refine lx_nil ?_
 refine wk_seq ?_
 refine wk_region ?_
 refine lx_value (want rfl) (rn_fieldAddr fa_80_0 rfl) ?_
 refine lx_value (want rfl) (rn_fieldAddr fa_35_1 rfl) ?_
 refine lx_value (want rfl) (rn_load1Blk ag_33 rfl (((((((B1.ext Eb2).ne Em1 (by omega)).ne Em2 (by omega)).ne Em3 (by omega)).ne Em4 (by omega)).ne Em5 (by omega)).ne Em6 (by omega)) rfl) ?_
 refine lx_value (want rfl) (mv_int rfl) ?_
 refine lx_value (want rfl) (rn_index at_.toNat Tryz.underlying33 sz_73 rfl rfl (by omega) (by omega)) ?_
 refine lx_value (want rfl) (rn_loadN ag_73 sz_73 rfl rfl (hcx.fr F8 (fun h => h))) ?_
 refine lx_new (want rfl) (rn_alloc ze_73) ?_
 intro b3 w9 hb3 Eb3 B3 hlb3
 have F9 := F8.ext Eb3
 have hzb3 := Eb3.size
 refine lx_set (want rfl) sz_73 rfl (t_agg rfl) rfl rfl rfl B3 (Nat.le_of_ble_eq_true rfl) ?_
 intro w10 Es1 Bs1
 have F10 := F9.set Es1 (by omega)
 have hzs1 := Es1.size
 refine lx_nil ?_
 refine wk_seq ?_
 refine wk_seq ?_
 refine wk_region ?_
 refine lx_value (want rfl) (rn_fieldAddr fa_73_0 rfl) ?_
 refine lx_value (want rfl) (rn_load1Blk ag_5 rfl Bs1 rfl) ?_
 refine lx_value (want rfl) (rn_eql rfl rfl) ?_
 refine lx_dec (fun h4 => ?_) (fun h4 => ?_)
 ·
  refine lx_nil ?_
  refine wk_cond_t rfl ?_
  refine wk_seq ?_
  refine wk_region ?_
  refine lx_value (want rfl) (rn_fieldAddr fa_73_1 rfl) ?_
  refine lx_value (want rfl) (rn_load1Blk ag_9 rfl Bs1 rfl) ?_
  refine lx_call (want rfl) (ent_func cf_35 (argsC (t_string rfl) args0)) (operands_ct _ w10) ?_
  rintro _ w11 E1 rfl
  have F11 := F10.ext E1
  have hz1 := E1.size
  refine lx_value (want rfl) (as_int rfl) ?_
  refine lx_nil ?_
  refine wk_ret ?_
  refine retR1 Tryz.results25 (.tmp (t_int rfl)) F11 ?_
  exact portN_4 h4
 ·
  refine lx_nil ?_
  refine wk_cond_f rfl ?_
  refine wk_skip ?_
  refine wk_seq ?_
  refine wk_region ?_
  refine lx_value (want rfl) (mv_map rfl) ?_
  refine lx_value (want rfl) (rn_fieldAddr fa_73_0 rfl) ?_
  refine lx_value (want rfl) (rn_load1Blk ag_5 rfl Bs1 rfl) ?_
  refine lx_value (v := .int .i64 (ptV (codeAt SS at_).op)) (want rfl) ((by rw [← ptL_get]; exact rn_lookL (k := (codeAt SS at_).op) mv_97.g rfl rfl (show MapL _ _ _ ptL from ((HMEm6.ext Eb3).ne Es1 (by omega))))) ?_
  refine lx_value (want rfl) (rn_max rfl rfl) ?_
  refine lx_value (want rfl) (as_int rfl) ?_
  refine lx_nil ?_
  refine wk_ret ?_
  refine retR1 Tryz.results25 (.tmp (t_int rfl)) F10 ?_
  exact portN_0 h4

theorem prim1_ct (v : Vl) (hv : intB v) (w0 : World) :
  CT Tryz.prog 75 [vlV v] w0 no (fun u _ => u = .bool false) := by
 have hv0 := hv
 obtain ⟨hk, hlo, hhi⟩ := hv
 have F0 := Fr.refl no w0
 refine ct_body Tryz.func75 rfl Tryz.ntmps75 (Nat.le_of_ble_eq_true rfl) ?_
 refine wk_seq ?_
 refine wk_region ?_
 refine lx_new (want rfl) (rn_box (t_agg rfl)) ?_
 intro b1 w1 hb1 Eb1 B1 hlb1
 have F1 := F0.ext Eb1
 have hzb1 := Eb1.size
 refine lx_value (want rfl) (as_bool rfl) ?_
 refine lx_nil ?_
 refine wk_seq ?_
 refine wk_region ?_
 refine lx_value (want rfl) (rn_fieldAddr fa_48_0 rfl) ?_
 refine lx_value (want rfl) (rn_load1Blk ag_5 rfl B1 rfl) ?_
 refine lx_value (want rfl) (rn_neq rfl rfl) ?_
 refine lx_dec_t ((by omega)) ?_
 refine lx_value (want rfl) (mv_bool rfl) ?_
 refine lx_value (want_if (j := 3) (d := 6) (x := true) (y := true) rfl rfl (by decide) rfl) (rn_loadBlk ag_48 sz_48 rfl B1 rfl rfl) ?_
 refine lx_call (want_if (j := 3) (d := 6) (x := true) (y := true) rfl rfl (by decide) rfl) (ent_func cf_76 (argsC (t_agg rfl) (argsC (t_int rfl) args0))) (cvalue_ct v hv0 _ w1) ?_
 rintro _ w2 E1 rfl
 have F2 := F1.ext E1
 have hz1 := E1.size
 refine lx_value (want_if (j := 3) (d := 6) (x := true) (y := true) rfl rfl (by decide) rfl) (rn_not rfl) ?_
 refine lx_value (want rfl) (pick_t rfl rfl) ?_
 refine lx_value (want rfl) (mv_bool rfl) ?_
 refine lx_value (want_if (j := 8) (d := 11) (x := false) (y := false) rfl rfl (by decide) rfl) (rn_fieldAddr fa_48_1 rfl) ?_
 refine lx_value (want_if (j := 8) (d := 11) (x := false) (y := false) rfl rfl (by decide) rfl) (rn_load1Blk ag_3 rfl (B1.ext E1) rfl) ?_
 refine lx_value (want_if (j := 8) (d := 11) (x := false) (y := false) rfl rfl (by decide) rfl) (rn_lss rfl rfl) ?_
 refine lx_dec (fun h14 => ?_) (fun h14 => ?_)
 ·
  refine lx_value (want_if (j := 8) (d := 11) (x := false) (y := false) rfl rfl (by decide) rfl) (mv_bool rfl) ?_
  refine lx_value (want_if (j := 12) (d := 15) (x := true) (y := true) rfl rfl (by decide) rfl) (rn_fieldAddr fa_48_0 rfl) ?_
  refine lx_value (want_if (j := 12) (d := 15) (x := true) (y := true) rfl rfl (by decide) rfl) (rn_load1Blk ag_5 rfl (B1.ext E1) rfl) ?_
  refine lx_value (want_if (j := 12) (d := 15) (x := true) (y := true) rfl rfl (by decide) rfl) (rn_eql rfl rfl) ?_
  refine lx_value (want_if (j := 8) (d := 11) (x := false) (y := false) rfl rfl (by decide) rfl) (pick_t rfl rfl) ?_
  refine lx_value (want rfl) (pick_f rfl rfl) ?_
  refine lx_value (want rfl) (as_bool rfl) ?_
  refine lx_nil ?_
  refine wk_ret ?_
  refine retR1 Tryz.results75 (.tmp (t_bool rfl)) F2 ?_
  first | exact congrArg Value.bool (decide_eq_false (by omega)) | exact rfl
 ·
  refine lx_value (want_if (j := 8) (d := 11) (x := false) (y := false) rfl rfl (by decide) rfl) (mv_bool rfl) ?_
  refine lx_skip (want_if (j := 12) (d := 15) (x := true) (y := false) rfl rfl (by decide) rfl) ?_
  refine lx_skip (want_if (j := 12) (d := 15) (x := true) (y := false) rfl rfl (by decide) rfl) ?_
  refine lx_skip (want_if (j := 12) (d := 15) (x := true) (y := false) rfl rfl (by decide) rfl) ?_
  refine lx_value (want_if (j := 8) (d := 11) (x := false) (y := false) rfl rfl (by decide) rfl) (pick_f rfl rfl) ?_
  refine lx_value (want rfl) (pick_f rfl rfl) ?_
  refine lx_value (want rfl) (as_bool rfl) ?_
  refine lx_nil ?_
  refine wk_ret ?_
  refine retR1 Tryz.results75 (.tmp (t_bool rfl)) F2 ?_
  first | exact congrArg Value.bool (decide_eq_false (by omega)) | exact rfl

theorem nodes_ct (p : Option Addr) (g : Sg) (ss : Option Addr) (cs : Nat) (si : Option Addr) (ci : Nat) (F : Nat → Prop) (hb : g.ins.length ≤ 1000) (w0 : World) (hi : InS F w0 si g.ins) :
  CT Tryz.prog 141 [.agg #[.pointer p, .string g.nm, .int .i64 (g.ex : Nat), .slice ss g.st.length cs, .slice si g.ins.length ci]] w0 no (fun v _ => v = .int .i64 (nodesN g.ins : Nat)) := by
 have F0 := Fr.refl no w0
 refine ct_body Tryz.func141 rfl Tryz.ntmps141 (Nat.le_of_ble_eq_true rfl) ?_
 refine wk_seq ?_
 refine wk_region ?_
 refine lx_new (want rfl) (rn_box (t_agg rfl)) ?_
 intro b1 w1 hb1 Eb1 B1 hlb1
 have F1 := F0.ext Eb1
 have hzb1 := Eb1.size
 refine lx_value (want rfl) (as_int rfl) ?_
 refine lx_nil ?_
 refine wk_seq ?_
 refine wk_region ?_
 refine lx_value (want rfl) (rn_fieldAddr fa_193_1 rfl) ?_
 refine lx_value (want rfl) (rn_fieldAddr fa_181_3 rfl) ?_
 refine lx_value (want rfl) (rn_load1Blk ag_33 rfl B1 rfl) ?_
 refine lx_call (want rfl) (ent_func cf_158 (argsC (t_slice rfl) (argsC rfl args0))) (indexn_ct g.ins _ _ _ 159 [] (fun x => !isNodeB x) cf_159 w1 (hi.fr (in_stab _) F1 (fun _ _ h => h)) hb (fun z so co w hz E => nodes1_ct z so co w)) ?_
 rintro _ w2 E1 ⟨iz, rfl, hiz⟩
 have F2 := F1.ext E1
 have hz1 := E1.size
 refine lx_value (want rfl) (as_int rfl) ?_
 refine lx_nil ?_
 refine wk_seq ?_
 refine wk_seq ?_
 refine wk_region ?_
 refine lx_value (want rfl) (mv_int rfl) ?_
 refine lx_value (want rfl) (rn_lss rfl rfl) ?_
 refine lx_dec (fun h9 => ?_) (fun h9 => ?_)
 ·
  refine lx_nil ?_
  refine wk_cond_t rfl ?_
  refine wk_seq ?_
  refine wk_region ?_
  refine lx_value (want rfl) (rn_fieldAddr fa_193_1 rfl) ?_
  refine lx_value (want rfl) (rn_fieldAddr fa_181_3 rfl) ?_
  refine lx_value (want rfl) (rn_load1Blk ag_33 rfl (B1.ext E1) rfl) ?_
  refine lx_value (want rfl) (rn_len Tryz.underlying33 rfl) ?_
  refine lx_value (want rfl) (as_int rfl) ?_
  refine lx_nil ?_
  refine wk_ret ?_
  refine retR1 Tryz.results141 (.tmp (t_int rfl)) F2 ?_
  exact (nodes_of hiz).elim (fun g => by rw [g.2]) (fun g => absurd h9 g.1)
 ·
  refine lx_nil ?_
  refine wk_cond_f rfl ?_
  refine wk_skip ?_
  refine wk_seq ?_
  refine wk_region ?_
  refine lx_value (want rfl) (mv_int rfl) ?_
  refine lx_value (want rfl) (as_int rfl) ?_
  refine lx_nil ?_
  refine wk_ret ?_
  refine retR1 Tryz.results141 (.tmp (t_int rfl)) F2 ?_
  exact (nodes_of hiz).elim (fun g => absurd g.1 h9) (fun g => by rw [g.2])

theorem alle_ct (l : List Ent) (s : Option Addr) (c : Nat) (F : Nat → Prop) (fid : FuncId) (bnd caps : List Value) (q : Ent → Bool) (hcf : ∀ args w, (callFunc fid args).run Tryz.prog w = .ok (.enter fid args) w) (w0 : World) (hl : EnS F w0 s l) (hb : l.length ≤ 2000) (hq : ∀ z so co w, z ∈ l → VlS F w so z.ports → Ext w0 w → CT Tryz.prog fid (bnd ++ [.agg #[.int .i64 z.ctx, .int .i64 z.at_, .slice so z.ports.length co]] ++ caps) w no (fun v _ => v = .bool (q z))) :
  CT Tryz.prog 64 [.slice s l.length c, .func (.func fid) bnd.toArray caps.toArray] w0 no (fun v _ => v = .bool (l.all q)) := by
 have F0 := Fr.refl no w0
 refine ct_body Tryz.func64 rfl Tryz.ntmps64 (Nat.le_of_ble_eq_true rfl) ?_
 refine wk_seq ?_
 refine wk_region ?_
 refine lx_new (want rfl) (rn_box (t_func rfl)) ?_
 intro b1 w1 hb1 Eb1 B1 hlb1
 have F1 := F0.ext Eb1
 have hzb1 := Eb1.size
 refine lx_value (want rfl) (as_bool rfl) ?_
 refine lx_nil ?_
 refine wk_seq ?_
 refine wk_region ?_
 refine lx_value (want rfl) (mv_slice rfl) ?_
 refine lx_value (want rfl) (rn_makeFunc (argsC (t_pointer rfl) args0)) ?_
 refine lx_call (want rfl) (ent_func cf_106 (argsC (t_slice rfl) (argsC (t_func rfl) args0))) (containse_ct l _ _ F 107 [] [.pointer (some ⟨b1, 0, none⟩)] (fun x => !q x) cf_107 w1 (hl.fr (en_stab _) F1 (fun _ _ h => h)) hb (fun z so co w hz hv E => alle1_ct z so co b1 fid bnd caps (q z) hcf w (B1.ext E) (fun w' E' => hq z so co w' hz (hv.ext (vl_stab _) E') ((F1.trans' E).trans' E')))) ?_
 rintro _ w2 E1 rfl
 have F2 := F1.ext E1
 have hz1 := E1.size
 refine lx_value (want rfl) (rn_not rfl) ?_
 refine lx_value (want rfl) (as_bool rfl) ?_
 refine lx_nil ?_
 refine wk_ret ?_
 refine retR1 Tryz.results64 (.tmp (t_bool rfl)) F2 ?_
 exact congrArg Value.bool (by rw [any_not, Bool.not_not])

theorem alln_ct (l : List Ins) (s : Option Addr) (c : Nat) (F : Nat → Prop) (fid : FuncId) (bnd caps : List Value) (q : Ins → Bool) (hcf : ∀ args w, (callFunc fid args).run Tryz.prog w = .ok (.enter fid args) w) (w0 : World) (hl : InS F w0 s l) (hb : l.length ≤ 1000) (hq : ∀ x so co w, x ∈ l → Ext w0 w → CT Tryz.prog fid (bnd ++ [.agg #[.int .u8 x.op, .string x.nm, .int .i64 x.n, .slice so x.outs.length co]] ++ caps) w no (fun v _ => v = .bool (q x))) :
  CT Tryz.prog 140 [.slice s l.length c, .func (.func fid) bnd.toArray caps.toArray] w0 no (fun v _ => v = .bool (l.all q)) := by
 have F0 := Fr.refl no w0
 refine ct_body Tryz.func140 rfl Tryz.ntmps140 (Nat.le_of_ble_eq_true rfl) ?_
 refine wk_seq ?_
 refine wk_region ?_
 refine lx_new (want rfl) (rn_box (t_func rfl)) ?_
 intro b1 w1 hb1 Eb1 B1 hlb1
 have F1 := F0.ext Eb1
 have hzb1 := Eb1.size
 refine lx_value (want rfl) (as_bool rfl) ?_
 refine lx_nil ?_
 refine wk_seq ?_
 refine wk_region ?_
 refine lx_value (want rfl) (mv_slice rfl) ?_
 refine lx_value (want rfl) (rn_makeFunc (argsC (t_pointer rfl) args0)) ?_
 refine lx_call (want rfl) (ent_func cf_152 (argsC (t_slice rfl) (argsC (t_func rfl) args0))) (containsn_ct l _ _ _ 157 [.pointer (some ⟨b1, 0, none⟩)] (fun x => !q x) cf_157 w1 (hl.fr (in_stab _) F1 (fun _ _ h => h)) hb (fun z so co w hz E => alln1_ct z so co b1 fid bnd caps (q z) hcf w (B1.ext E) (fun w' E' => hq z so co w' hz ((F1.trans' E).trans' E')))) ?_
 rintro _ w2 E1 rfl
 have F2 := F1.ext E1
 have hz1 := E1.size
 refine lx_value (want rfl) (rn_not rfl) ?_
 refine lx_value (want rfl) (as_bool rfl) ?_
 refine lx_nil ?_
 refine wk_ret ?_
 refine retR1 Tryz.results140 (.tmp (t_bool rfl)) F2 ?_
 exact congrArg Value.bool (by rw [any_not, Bool.not_not])

theorem allt_ct (l : List Tok) (s : Option Addr) (c : Nat) (F : Nat → Prop) (fid : FuncId) (bnd caps : List Value) (q : Tok → Bool) (hcf : ∀ args w, (callFunc fid args).run Tryz.prog w = .ok (.enter fid args) w) (w0 : World) (hl : TkS F w0 s l) (hb : l.length ≤ 2000) (hq : ∀ z w, z ∈ l → Ext w0 w → CT Tryz.prog fid (bnd ++ [.agg #[.int .i64 z.1, .int .i64 z.2.1, .int .i64 z.2.2.1, .int .u8 z.2.2.2.1, .int .i64 z.2.2.2.2]] ++ caps) w no (fun v _ => v = .bool (q z))) :
  CT Tryz.prog 81 [.slice s l.length c, .func (.func fid) bnd.toArray caps.toArray] w0 no (fun v _ => v = .bool (l.all q)) := by
 have F0 := Fr.refl no w0
 refine ct_body Tryz.func81 rfl Tryz.ntmps81 (Nat.le_of_ble_eq_true rfl) ?_
 refine wk_seq ?_
 refine wk_region ?_
 refine lx_new (want rfl) (rn_box (t_func rfl)) ?_
 intro b1 w1 hb1 Eb1 B1 hlb1
 have F1 := F0.ext Eb1
 have hzb1 := Eb1.size
 refine lx_value (want rfl) (as_bool rfl) ?_
 refine lx_nil ?_
 refine wk_seq ?_
 refine wk_region ?_
 refine lx_value (want rfl) (mv_slice rfl) ?_
 refine lx_value (want rfl) (rn_makeFunc (argsC (t_pointer rfl) args0)) ?_
 refine lx_call (want rfl) (ent_func cf_118 (argsC (t_slice rfl) (argsC (t_func rfl) args0))) (containst_ct l _ _ F 119 [] [.pointer (some ⟨b1, 0, none⟩)] (fun x => !q x) cf_119 w1 (hl.fr (tk_stab _) F1 (fun _ _ h => h)) hb (fun z w hz  E => allt1_ct z b1 fid bnd caps (q z) hcf w (B1.ext E) (fun w' E' => hq z w' hz  ((F1.trans' E).trans' E')))) ?_
 rintro _ w2 E1 rfl
 have F2 := F1.ext E1
 have hz1 := E1.size
 refine lx_value (want rfl) (rn_not rfl) ?_
 refine lx_value (want rfl) (as_bool rfl) ?_
 refine lx_nil ?_
 refine wk_ret ?_
 refine retR1 Tryz.results81 (.tmp (t_bool rfl)) F2 ?_
 exact congrArg Value.bool (by rw [any_not, Bool.not_not])

theorem ewithin_ct (n a b : Int) (s : Option Addr) (c : Nat) (w0 : World) (hs : Sl (fun _ => True) w0 s 1 [n] (Fl intC)) :
  CT Tryz.prog 7 [.int .i64 a, .int .i64 b, .slice s 1 c] w0 no (fun v _ => v = .bool (decide (a ≤ n ∧ n ≤ b))) := by
 have F0 := Fr.refl no w0
 refine ct_body Tryz.func7 rfl Tryz.ntmps7 (Nat.le_of_ble_eq_true rfl) ?_
 refine wk_seq ?_
 refine wk_region ?_
 refine lx_new (want rfl) (rn_box (t_int rfl)) ?_
 intro b1 w1 hb1 Eb1 B1 hlb1
 have F1 := F0.ext Eb1
 have hzb1 := Eb1.size
 refine lx_new (want rfl) (rn_box (t_int rfl)) ?_
 intro b2 w2 hb2 Eb2 B2 hlb2
 have F2 := F1.ext Eb2
 have hzb2 := Eb2.size
 refine lx_value (want rfl) (as_bool rfl) ?_
 refine lx_nil ?_
 refine wk_seq ?_
 refine wk_region ?_
 refine lx_value (want rfl) (mv_slice rfl) ?_
 refine lx_value (want rfl) (rn_makeFunc (argsC (t_pointer rfl) (argsC (t_pointer rfl) args0))) ?_
 refine lx_call (want rfl) (ent_func cf_20 (argsC (t_slice rfl) (argsC (t_func rfl) args0))) (containsi_ct [n] s c _ 21 [.pointer (some ⟨b1, 0, none⟩), .pointer (some ⟨b2, 0, none⟩)] (fun z => decide (z < a ∨ z > b)) cf_21 w2 (hs.fr (int_stab _) F2 (fun _ _ h => h)) (show 1 ≤ 1000 by decide) (fun z w hz E => ewithin1_ct z a b b1 b2 w ((B1.ext Eb2).ext E) (B2.ext E))) ?_
 rintro _ w3 E1 rfl
 have F3 := F2.ext E1
 have hz1 := E1.size
 refine lx_value (want rfl) (rn_not rfl) ?_
 refine lx_value (want rfl) (as_bool rfl) ?_
 refine lx_nil ?_
 refine wk_ret ?_
 refine retR1 Tryz.results7 (.tmp (t_bool rfl)) F3 ?_
 exact win_e

theorem kloop_ct (g : Sg) (ss : Option Addr) (cs : Nat) (si : Option Addr) (ci : Nat) (F : Nat → Prop) (hb : g.ins.length ≤ 1000) (w0 : World) (hi : InS F w0 si g.ins) :
  CT Tryz.prog 127 [.agg #[.string g.nm, .int .i64 (g.ex : Nat), .slice ss g.st.length cs, .slice si g.ins.length ci]] w0 no (fun v _ => v = .bool (isLoopB g.ins)) := by
 have F0 := Fr.refl no w0
 refine ct_body Tryz.func127 rfl Tryz.ntmps127 (Nat.le_of_ble_eq_true rfl) ?_
 refine wk_seq ?_
 refine wk_region ?_
 refine lx_new (want rfl) (rn_box (t_agg rfl)) ?_
 intro b1 w1 hb1 Eb1 B1 hlb1
 have F1 := F0.ext Eb1
 have hzb1 := Eb1.size
 refine lx_value (want rfl) (as_bool rfl) ?_
 refine lx_nil ?_
 refine wk_seq ?_
 refine wk_region ?_
 refine lx_value (want rfl) (rn_fieldAddr fa_181_3 rfl) ?_
 refine lx_value (want rfl) (rn_load1Blk ag_33 rfl B1 rfl) ?_
 refine lx_call (want rfl) (ent_func cf_152 (argsC (t_slice rfl) (argsC rfl args0))) (containsn_ct g.ins _ _ _ 153 [] (fun x => decide (x.op = 23)) cf_153 w1 (hi.fr (in_stab _) F1 (fun _ _ h => h)) hb (fun z so co w hz E => kloop1_ct z so co w)) ?_
 rintro _ w2 E1 rfl
 have F2 := F1.ext E1
 have hz1 := E1.size
 refine lx_value (want rfl) (as_bool rfl) ?_
 refine lx_nil ?_
 refine wk_ret ?_
 refine retR1 Tryz.results127 (.tmp (t_bool rfl)) F2 ?_
 exact rfl

theorem oloop_ct (g : Sg) (ss : Option Addr) (cs : Nat) (si : Option Addr) (ci : Nat) (F : Nat → Prop) (hb : g.ins.length ≤ 1000) (w0 : World) (hi : InS F w0 si g.ins) :
  CT Tryz.prog 128 [.agg #[.string g.nm, .int .i64 (g.ex : Nat), .slice ss g.st.length cs, .slice si g.ins.length ci]] w0 no (fun v _ => v = .bool (isLoopB g.ins)) := by
 have F0 := Fr.refl no w0
 refine ct_body Tryz.func128 rfl Tryz.ntmps128 (Nat.le_of_ble_eq_true rfl) ?_
 refine wk_seq ?_
 refine wk_region ?_
 refine lx_new (want rfl) (rn_box (t_agg rfl)) ?_
 intro b1 w1 hb1 Eb1 B1 hlb1
 have F1 := F0.ext Eb1
 have hzb1 := Eb1.size
 refine lx_value (want rfl) (as_bool rfl) ?_
 refine lx_nil ?_
 refine wk_seq ?_
 refine wk_region ?_
 refine lx_value (want rfl) (rn_fieldAddr fa_181_3 rfl) ?_
 refine lx_value (want rfl) (rn_load1Blk ag_33 rfl B1 rfl) ?_
 refine lx_call (want rfl) (ent_func cf_152 (argsC (t_slice rfl) (argsC rfl args0))) (containsn_ct g.ins _ _ _ 154 [] (fun x => decide (x.op = 23)) cf_154 w1 (hi.fr (in_stab _) F1 (fun _ _ h => h)) hb (fun z so co w hz E => oloop1_ct z so co w)) ?_
 rintro _ w2 E1 rfl
 have F2 := F1.ext E1
 have hz1 := E1.size
 refine lx_value (want rfl) (as_bool rfl) ?_
 refine lx_nil ?_
 refine wk_ret ?_
 refine retR1 Tryz.results128 (.tmp (t_bool rfl)) F2 ?_
 exact rfl

theorem osame_ct (L : List (List Ds)) (s1 s2 : Option Addr) (c1 c2 : Nat) (Fa Fb : Nat → Prop) (hsm : smallD L = true) (w0 : World) (ha : DdS Fa w0 s1 L) (hb : DdS Fb w0 s2 L) :
  CT Tryz.prog 129 [.slice s1 L.length c1, .slice s2 L.length c2] w0 no (fun v _ => v = .bool true) := by
 have F0 := Fr.refl no w0
 refine ct_body Tryz.func129 rfl Tryz.ntmps129 (Nat.le_of_ble_eq_true rfl) ?_
 refine wk_seq ?_
 refine wk_region ?_
 refine lx_value (want rfl) (as_bool rfl) ?_
 refine lx_nil ?_
 refine wk_seq ?_
 refine wk_region ?_
 refine lx_value (want rfl) (mv_slice rfl) ?_
 refine lx_value (want rfl) (mv_slice rfl) ?_
 refine lx_call (want rfl) (ent_func cf_155 (argsC (t_slice rfl) (argsC (t_slice rfl) (argsC rfl args0)))) (eqdd_ct L s1 s2 c1 c2 Fa Fb hsm w0 (ha.fr (dd_stab _) F0 (fun _ _ h => h)) (hb.fr (dd_stab _) F0 (fun _ _ h => h))) ?_
 rintro _ w1 E1 rfl
 have F1 := F0.ext E1
 have hz1 := E1.size
 refine lx_value (want rfl) (as_bool rfl) ?_
 refine lx_nil ?_
 refine wk_ret ?_
 refine retR1 Tryz.results129 (.tmp (t_bool rfl)) F1 ?_
 exact rfl

theorem allp_ct (fn : Fn) (bs cs : Array Value) (w0 : World) :
  CT Tryz.prog 66 [.slice none 0 0, .func fn bs cs] w0 no (fun v _ => v = .bool true) := by
 have F0 := Fr.refl no w0
 refine ct_body Tryz.func66 rfl Tryz.ntmps66 (Nat.le_of_ble_eq_true rfl) ?_
 refine wk_seq ?_
 refine wk_region ?_
 refine lx_new (want rfl) (rn_box (t_func rfl)) ?_
 intro b1 w1 hb1 Eb1 B1 hlb1
 have F1 := F0.ext Eb1
 have hzb1 := Eb1.size
 refine lx_value (want rfl) (as_bool rfl) ?_
 refine lx_nil ?_
 refine wk_seq ?_
 refine wk_region ?_
 refine lx_value (want rfl) (mv_slice rfl) ?_
 refine lx_value (want rfl) (rn_makeFunc (argsC (t_pointer rfl) args0)) ?_
 refine lx_call (want rfl) (ent_func cf_108 (argsC (t_slice rfl) (argsC (t_func rfl) args0))) (containsp_ct _ _ _ w1) ?_
 rintro _ w2 E1 rfl
 have F2 := F1.ext E1
 have hz1 := E1.size
 refine lx_value (want rfl) (rn_not rfl) ?_
 refine lx_value (want rfl) (as_bool rfl) ?_
 refine lx_nil ?_
 refine wk_ret ?_
 refine retR1 Tryz.results66 (.tmp (t_bool rfl)) F2 ?_
 exact rfl

end Go.Proofs.YtgnnegfnpgnbbaaGreatDoor

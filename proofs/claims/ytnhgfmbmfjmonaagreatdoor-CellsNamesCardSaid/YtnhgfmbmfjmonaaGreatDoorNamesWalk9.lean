/- What functions compute: work, prim1, repeat, psame, isthere, divided, pdraw1, op2, op0, op1, isstruct1, op5. -/
import Derived.Test.YtnhgfmbmfjmonaaGreatDoorNamesFacts
import Derived.Test.YtnhgfmbmfjmonaaGreatDoorNamesPre
import Derived.Test.YtnhgfmbmfjmonaaGreatDoorNamesWalk1
import Derived.Test.YtnhgfmbmfjmonaaGreatDoorNamesWalk2
import Derived.Test.YtnhgfmbmfjmonaaGreatDoorNamesWalk4
import Derived.Test.YtnhgfmbmfjmonaaGreatDoorNamesWalk5
set_option maxRecDepth 100000
set_option linter.unusedVariables false
set_option linter.unusedSimpArgs false
namespace Go.Proofs.YtnhgfmbmfjmonaaGreatDoor
open Go Go.RowKit Go.Mix Go.Eng
theorem work_ct (k : Nat) (bK : Nat) (fid : FuncId) (l : List Vl) (s : Option Addr) (c : Nat) (F : Nat → Prop) (hb : l.length ≤ 1048576) (hl0 : 0 < l.length) (hav : l.all isValA = true) (hcf : ∀ args w, (callFunc fid args).run Tryz.prog w = .ok (.enter fid args) w) (hfn : ∀ (a b : Int) w, (-1000000000 ≤ a ∧ a ≤ 1000000000) → (-1000000000 ≤ b ∧ b ≤ 1000000000) → CT Tryz.prog fid [.int .i64 a, .int .i64 b] w no (fun v _ => v = vlV (workV k a b))) (w0 : World) (hK : Blk w0 bK ((kindC k).map (Value.int .u8)) 5) (hl : VlS F w0 s l) :
  CT Tryz.prog 84 [.agg #[.int .i64 (arity k : Nat), .slice (some ⟨bK, 0, none⟩) (kindC k).length (kindC k).length, .func (.func fid) #[] #[]], .slice s l.length c] w0 no (fun v _ => v = vlV (primV k l)) := by
 have F0 := Fr.refl no w0
 refine ct_body Tryz.func84 rfl Tryz.ntmps84 (Nat.le_of_ble_eq_true rfl) ?_
 refine wk_seq ?_
 refine wk_region ?_
 refine lx_new (want rfl) (rn_box (t_agg rfl)) ?_
 intro b1 w1 hb1 Eb1 B1 hlb1
 have F1 := F0.ext Eb1
 have hzb1 := Eb1.size
 refine lx_new (want rfl) (rn_alloc ze_36) ?_
 intro b2 w2 hb2 Eb2 B2 hlb2
 have F2 := F1.ext Eb2
 have hzb2 := Eb2.size
 refine lx_nil ?_
 refine wk_seq ?_
 refine wk_seq ?_
 refine wk_region ?_
 refine lx_value (want rfl) (mv_slice rfl) ?_
 refine lx_call (want rfl) (ent_func cf_73 (argsC (t_slice rfl) (argsC rfl args0))) (containsv_ct l _ _ _ 99 [] holeB cf_99 w2 (hl.fr (vl_stab _) F2 (fun _ _ h => h)) hb (fun z w hz E => ishole_ct z.1 z.2 w)) ?_
 rintro _ w3 E1 rfl
 have F3 := F2.ext E1
 have hz1 := E1.size
 refine lx_split (fun hh => ?_) (fun hh => ?_)
 ·
  refine lx_nil ?_
  refine wk_cond_t rfl ?_
  refine wk_seq ?_
  refine wk_region ?_
  refine lx_call (want rfl) (ent_func cf_105 args0) (hole_ct w3) ?_
  rintro _ w4 E2 rfl
  have F4 := F3.ext E2
  have hz2 := E2.size
  refine lx_set (want rfl) sz_36 rfl (t_agg rfl) rfl rfl rfl ((B2.ext E1).ext E2) (Nat.le_of_ble_eq_true rfl) ?_
  intro w5 Es1 Bs1
  have F5 := F4.set Es1 (by omega)
  have hzs1 := Es1.size
  refine lx_nil ?_
  refine wk_ret ?_
  refine retR1 Tryz.results84 (.cell rfl (run_loadVar_blk ag_36 sz_36 Bs1 rfl rfl)) F5 ?_
  exact prim_hole hh
 ·
  refine lx_nil ?_
  refine wk_cond_f rfl ?_
  refine wk_skip ?_
  refine wk_seq ?_
  refine wk_seq ?_
  refine wk_region ?_
  refine lx_value (want rfl) (mv_slice rfl) ?_
  refine lx_call (want rfl) (ent_func cf_119 (argsC (t_slice rfl) (argsC rfl args0))) (indexv_ct l _ _ _ 139 [] badB cf_139 w3 (hl.fr (vl_stab _) F3 (fun _ _ h => h)) hb (fun z w hz E => isbad_ct z.1 z.2 w)) ?_
  rintro _ w4 E3 ⟨iz, rfl, hiz⟩
  have F6 := F3.ext E3
  have hz3 := E3.size
  refine lx_value (want rfl) (as_int rfl) ?_
  refine lx_nil ?_
  refine wk_seq ?_
  refine wk_region ?_
  refine lx_value (want rfl) (mv_int rfl) ?_
  refine lx_value (want rfl) (rn_geq rfl rfl) ?_
  refine lx_dec (fun hz => ?_) (fun hz => ?_)
  ·
   obtain ⟨ib, xb, rfl, hxb, hqb, hfb⟩ := idx_at hiz hz
   obtain ⟨bx, ox, rfl, _, hcx⟩ := hl ib xb hxb
   have hibl := (List.getElem?_eq_some_iff.1 hxb).1
   refine lx_nil ?_
   refine wk_cond_t rfl ?_
   refine wk_seq ?_
   refine wk_region ?_
   refine lx_value (want rfl) (mv_slice rfl) ?_
   refine lx_value (want rfl) (mv_int rfl) ?_
   refine lx_value (want rfl) (rn_index ib Tryz.underlying30 sz_36 rfl rfl rfl hibl) ?_
   refine lx_value (want rfl) (rn_load2 ag_36 sz_36 rfl (F6.cell (fun h => h) (hcx 0 _ rfl)) (F6.cell (fun h => h) (hcx 1 _ rfl))) ?_
   refine lx_set (want rfl) sz_36 rfl (t_agg rfl) rfl rfl rfl ((B2.ext E1).ext E3) (Nat.le_of_ble_eq_true rfl) ?_
   intro w5 Es2 Bs2
   have F7 := F6.set Es2 (by omega)
   have hzs2 := Es2.size
   refine lx_nil ?_
   refine wk_ret ?_
   refine retR1 Tryz.results84 (.cell rfl (run_loadVar_blk ag_36 sz_36 Bs2 rfl rfl)) F7 ?_
   exact prim_bad hh hxb hqb hfb
  ·
   have hnb := idx_no hiz hz
   obtain ⟨x, hx⟩ : ∃ x, l[0]? = some x := ⟨_, List.getElem?_eq_getElem hl0⟩
   obtain ⟨y, hy⟩ : ∃ y, l[l.length - 1]? = some y := ⟨_, List.getElem?_eq_getElem (by omega)⟩
   obtain ⟨bx, ox, hsx, _, hcx⟩ := hl 0 x hx
   subst hsx
   have hcy := hl.get hy
   refine lx_nil ?_
   refine wk_cond_f rfl ?_
   refine wk_skip ?_
   refine wk_seq ?_
   refine wk_mix 13 (fun kS => match kS with | 9 => .any (fun I v w => v = .pointer (some ⟨I.1, 0, none⟩) ∧ w4.heap.size ≤ I.1 ∧ I.1 < I.2 ∧ Blk w I.1 [.int .u8 0, .int .i64 0] 36) | 10 => .any (fun I v w => v = .pointer (some ⟨I.1, 0, none⟩) ∧ w4.heap.size ≤ I.1 ∧ I.1 < I.2 ∧ Blk w I.1 [.int .u8 0, .int .i64 0] 36) | 11 => .sto 6 21 (fun J u w => J.1 < J.2 ∧ Blk w J.1 u.cells.toList 36) | 12 => .sto 7 27 (fun J u w => J.1 < J.2 ∧ Blk w J.1 u.cells.toList 36) | _ => .none) (by kernel_rfl) (by kernel_rfl) (by intro kS G hk; (try dsimp only at hk); (split at hk) <;> first | (cases hk; done) | (injection hk with hk; subst hk; exact ⟨by intro j hkj I v w w' hR hG; first | exact hG | (obtain ⟨h1, h2, hI, h3⟩ := hG; exact ⟨h1, h2, hI, h3.ext hR⟩) | (obtain ⟨h1, h2, hI, h3⟩ := hG; exact ⟨h1, h2, hI, h3.ext hR⟩), fun _ I v w w' hR hG => by first | exact hG | (obtain ⟨h1, h2, hI, h3⟩ := hG; exact ⟨h1, h2, hI, h3.fr hR (fun h => h.2 ⟨Nat.le_refl _, hI⟩)⟩) | (obtain ⟨h1, h2, hI, h3⟩ := hG; exact ⟨h1, h2, hI, h3.fr hR (fun h => h.2 ⟨Nat.le_refl _, hI⟩)⟩)⟩)) (by intro kS s y G hk; (try dsimp only at hk); (split at hk) <;> first | (cases hk; done) | (injection hk with hk1 hk2 hk3; subst hk1; subst hk2; subst hk3; exact ⟨by kernel_rfl, by intro j hkj I v w w' hR hG; exact ⟨hG.1, hG.2.ext hR⟩, fun I v w w' hR hG => ⟨hG.1, hG.2.fr hR (fun h => h.2 ⟨Nat.le_refl _, hG.1⟩)⟩⟩)) ?_
   simp only [List.take_succ_cons, List.take_zero, List.take_nil, List.drop_succ_cons, List.drop_zero, List.drop_nil]
   refine mx_calm rfl (want rfl) (fun u1 eu1 fu1 => mv_slice rfl) ?_
   refine mx_calm rfl (want rfl) (fun u2 eu2 fu2 => rn_index 0 Tryz.underlying30 sz_36 rfl rfl rfl hl0) ?_
   refine mx_calm rfl (want rfl) (fun u3 eu3 fu3 => rn_load2 ag_36 sz_36 rfl ((F6.ext ((ext_drawn _).trans' eu3)).cell (fun h => h) (hcx 0 _ rfl)) ((F6.ext ((ext_drawn _).trans' eu3)).cell (fun h => h) (hcx 1 _ rfl))) ?_
   refine mx_calm rfl (want rfl) (fun u4 eu4 fu4 => mv_slice rfl) ?_
   refine mx_calm rfl (want rfl) (fun u5 eu5 fu5 => mv_slice rfl) ?_
   refine mx_calm rfl (want rfl) (fun u6 eu6 fu6 => rn_len Tryz.underlying30 rfl) ?_
   refine mx_calm rfl (want rfl) (fun u7 eu7 fu7 => rn_sub rfl rfl (by omega)) ?_
   refine mx_calm rfl (want rfl) (fun u8 eu8 fu8 => rn_index (l.length - 1) Tryz.underlying30 sz_36 rfl rfl (by omega) (by omega)) ?_
   refine mx_calm rfl (want rfl) (fun u9 eu9 fu9 => rn_load2 ag_36 sz_36 rfl ((F6.ext ((ext_drawn _).trans' eu9)).cell (fun h => h) (hcy 0 _ rfl)) ((F6.ext ((ext_drawn _).trans' eu9)).cell (fun h => h) (hcy 1 _ rfl))) ?_
   refine mx_any rfl rfl (want rfl) (fun u10 eu10 fu10 => (do_new3 (rn_alloc ze_36) (show _ ≤ _ from (((ext_drawn _).trans' eu10)).size)).mono (fun v w' h => ⟨h.1, h.2⟩)) (fun I6 v6 => ?_)
   refine mx_any rfl rfl (want rfl) (fun u11 eu11 fu11 => (do_new3 (rn_alloc ze_36) (show _ ≤ _ from (((ext_drawn _).trans' eu11)).size)).mono (fun v w' h => ⟨h.1, h.2⟩)) (fun I7 v7 => ?_)
   refine mx_sto rfl rfl rfl rfl (want rfl) (fun u12 eu12 fu12 _ => by obtain ⟨rfl, hl6, hi6, hB6⟩ := fu12 6 _ rfl (show (6 : Nat) ∈ _ from by decide); exact (do_sto sz_36 rfl rfl rfl rfl rfl hB6 rfl ⟨Nat.le_refl _, hi6⟩).mono (fun v w' h => ⟨h.1, h.2.1, hi6, h.2.2⟩)) ?_
   refine mx_sto rfl rfl rfl rfl (want rfl) (fun u13 eu13 fu13 _ => by obtain ⟨rfl, hl7, hi7, hB7⟩ := fu13 7 _ rfl (show (7 : Nat) ∈ _ from by decide); exact (do_sto sz_36 rfl rfl rfl rfl rfl hB7 rfl ⟨Nat.le_refl _, hi7⟩).mono (fun v w' h => ⟨h.1, h.2.1, hi7, h.2.2⟩)) ?_
   refine mx_nil (fun w5 E4' H1 HS => ?_)
   have E4 := (ext_drawn _).trans' E4'
   have F8 := F6.ext E4
   have hz4 := E4.size
   have hI7 := (HS.1 7 _ rfl).2
   have hI6 := (HS.1 6 _ rfl).2
   have hX7_6 := HS.2 7 _ 6 _ rfl rfl (show (7 : Nat) ≠ 6 from by decide)
   simp only at hI7
   simp only at hI6
   simp only at hX7_6
   have g7 := H1 7 _ rfl
   obtain ⟨⟨_, hv7, hb7, _, _⟩, hi7, hB7⟩ := g7; subst hv7; have hlb7 := hB7.lt
   have g6 := H1 6 _ rfl
   obtain ⟨⟨_, hv6, hb6, _, _⟩, hi6, hB6⟩ := g6; subst hv6; have hlb6 := hB6.lt
   refine lx_nil ?_
   refine wk_seq ?_
   refine wk_seq ?_
   refine wk_region ?_
   refine lx_value (want rfl) (rn_fieldAddr fa_36_0 rfl) ?_
   refine lx_value (want rfl) (rn_load1Blk ag_5 rfl hB6 rfl) ?_
   refine lx_value (want rfl) (rn_fieldAddr fa_36_0 rfl) ?_
   refine lx_value (want rfl) (rn_load1Blk ag_5 rfl hB7 rfl) ?_
   refine lx_value (want rfl) (rn_neq rfl rfl) ?_
   refine lx_dec (fun hne => ?_) (fun hne => ?_)
   ·
    refine lx_value (want rfl) (mv_bool rfl) ?_
    refine lx_skip (want_if (j := 5) (d := 33) (x := false) (y := true) rfl rfl (by decide) rfl) ?_
    refine lx_skip (want_if (j := 5) (d := 33) (x := false) (y := true) rfl rfl (by decide) rfl) ?_
    refine lx_skip (want_if (j := 5) (d := 33) (x := false) (y := true) rfl rfl (by decide) rfl) ?_
    refine lx_skip (want_if (j := 5) (d := 33) (x := false) (y := true) rfl rfl (by decide) rfl) ?_
    refine lx_skip (want_if (j := 5) (d := 33) (x := false) (y := true) rfl rfl (by decide) rfl) ?_
    refine lx_skip (want_if (j := 5) (d := 33) (x := false) (y := true) rfl rfl (by decide) rfl) ?_
    refine lx_value (want rfl) (pick_t rfl rfl) ?_
    refine lx_nil ?_
    refine wk_cond_t rfl ?_
    refine wk_seq ?_
    refine wk_region ?_
    refine lx_call (want rfl) (ent_func cf_141 (argsC (t_int rfl) args0)) (bad_ct _ w5) ?_
    rintro _ w6 E5 rfl
    have F9 := F8.ext E5
    have hz5 := E5.size
    refine lx_set (want rfl) sz_36 rfl (t_agg rfl) rfl rfl rfl ((((B2.ext E1).ext E3).ext E4).ext E5) (Nat.le_of_ble_eq_true rfl) ?_
    intro w7 Es3 Bs3
    have F10 := F9.set Es3 (by omega)
    have hzs3 := Es3.size
    refine lx_nil ?_
    refine wk_ret ?_
    refine retR1 Tryz.results84 (.cell rfl (run_loadVar_blk ag_36 sz_36 Bs3 rfl rfl)) F10 ?_
    exact wk_no hh hnb hx hy (fun g => hne g.1)
   ·
    refine lx_value (want rfl) (mv_bool rfl) ?_
    refine lx_value (want_if (j := 5) (d := 33) (x := false) (y := false) rfl rfl (by decide) rfl) (rn_fieldAddr fa_126_1 rfl) ?_
    refine lx_value (want_if (j := 5) (d := 33) (x := false) (y := false) rfl rfl (by decide) rfl) (rn_load1Blk ag_123 rfl ((((B1.ext Eb2).ext E1).ext E3).ext E4) rfl) ?_
    refine lx_value (want_if (j := 5) (d := 33) (x := false) (y := false) rfl rfl (by decide) rfl) (rn_fieldAddr fa_36_0 rfl) ?_
    refine lx_value (want_if (j := 5) (d := 33) (x := false) (y := false) rfl rfl (by decide) rfl) (rn_load1Blk ag_5 rfl hB6 rfl) ?_
    refine lx_call (want_if (j := 5) (d := 33) (x := false) (y := false) rfl rfl (by decide) rfl) (ent_func cf_140 (argsC (t_slice rfl) (argsC (t_int rfl) args0))) (containsu_ct (kindC k) _ _ _ x.1 w5 ((u8_sl hK).fr (u8_stab _) F8 (fun _ _ h => h)) (kindC_len k)) ?_
    rintro _ w6 E6 rfl
    have F11 := F8.ext E6
    have hz6 := E6.size
    refine lx_split (fun hkd => ?_) (fun hkd => ?_)
    ·
     rw [kind_has] at hkd
     have hx12 := kindB_12 hkd
     have hxe : x.1 = y.1 := Decidable.not_not.1 hne
     have hbx := isValA_b (List.all_eq_true.1 hav x (List.mem_of_getElem? hx)) hx12
     have hby := isValA_b (List.all_eq_true.1 hav y (List.mem_of_getElem? hy)) (by rw [← hxe]; exact hx12)
     refine lx_value (want_if (j := 5) (d := 33) (x := false) (y := false) rfl rfl (by decide) rfl) (rn_not rfl) ?_
     refine lx_value (want rfl) (pick_f rfl rfl) ?_
     refine lx_nil ?_
     refine wk_cond_f rfl ?_
     refine wk_skip ?_
     refine wk_seq ?_
     refine wk_region ?_
     refine lx_value (want rfl) (rn_fieldAddr fa_126_2 rfl) ?_
     refine lx_value (want rfl) (rn_load1Blk ag_124 rfl (((((B1.ext Eb2).ext E1).ext E3).ext E4).ext E6) rfl) ?_
     refine lx_value (want rfl) (rn_fieldAddr fa_36_1 rfl) ?_
     refine lx_value (want rfl) (rn_load1Blk ag_3 rfl (hB6.ext E6) rfl) ?_
     refine lx_value (want rfl) (rn_fieldAddr fa_36_1 rfl) ?_
     refine lx_value (want rfl) (rn_load1Blk ag_3 rfl (hB7.ext E6) rfl) ?_
     refine lx_call (want rfl) (ent_value hcf rfl (argsC (t_int rfl) (argsC (t_int rfl) args0))) (hfn x.2 y.2 w6 hbx hby) ?_
     rintro _ w7 E7 rfl
     have F12 := F11.ext E7
     have hz7 := E7.size
     refine lx_set (want rfl) sz_36 rfl (t_agg rfl) rfl rfl rfl (((((B2.ext E1).ext E3).ext E4).ext E6).ext E7) (Nat.le_of_ble_eq_true rfl) ?_
     intro w8 Es4 Bs4
     have F13 := F12.set Es4 (by omega)
     have hzs4 := Es4.size
     refine lx_nil ?_
     refine wk_ret ?_
     refine retR1 Tryz.results84 (.cell rfl (run_loadVar_blk ag_36 sz_36 Bs4 rfl rfl)) F13 ?_
     exact wk_yes hh hnb hx hy ⟨hxe, hkd⟩
    ·
     rw [kind_has] at hkd
     refine lx_value (want_if (j := 5) (d := 33) (x := false) (y := false) rfl rfl (by decide) rfl) (rn_not rfl) ?_
     refine lx_value (want rfl) (pick_f rfl rfl) ?_
     refine lx_nil ?_
     refine wk_cond_t rfl ?_
     refine wk_seq ?_
     refine wk_region ?_
     refine lx_call (want rfl) (ent_func cf_141 (argsC (t_int rfl) args0)) (bad_ct _ w6) ?_
     rintro _ w7 E8 rfl
     have F14 := F11.ext E8
     have hz8 := E8.size
     refine lx_set (want rfl) sz_36 rfl (t_agg rfl) rfl rfl rfl (((((B2.ext E1).ext E3).ext E4).ext E6).ext E8) (Nat.le_of_ble_eq_true rfl) ?_
     intro w8 Es5 Bs5
     have F15 := F14.set Es5 (by omega)
     have hzs5 := Es5.size
     refine lx_nil ?_
     refine wk_ret ?_
     refine retR1 Tryz.results84 (.cell rfl (run_loadVar_blk ag_36 sz_36 Bs5 rfl rfl)) F15 ?_
     exact wk_no hh hnb hx hy (fun g => by rw [hkd] at g; exact Bool.false_ne_true g.2)

theorem prim1_ct (z : Vl) (w0 : World) :
  CT Tryz.prog 83 [vlV z] w0 no (fun v _ => v = .bool (!isValA z)) := by
 have F0 := Fr.refl no w0
 refine ct_body Tryz.func83 rfl Tryz.ntmps83 (Nat.le_of_ble_eq_true rfl) ?_
 refine wk_seq ?_
 refine wk_region ?_
 refine lx_new (want rfl) (rn_box (t_agg rfl)) ?_
 intro b1 w1 hb1 Eb1 B1 hlb1
 have F1 := F0.ext Eb1
 have hzb1 := Eb1.size
 refine lx_value (want rfl) (as_bool rfl) ?_
 refine lx_nil ?_
 refine wk_seq ?_
 refine wk_region ?_
 refine lx_value (want rfl) (rn_fieldAddr fa_36_0 rfl) ?_
 refine lx_value (want rfl) (rn_load1Blk ag_5 rfl B1 rfl) ?_
 refine lx_value (want rfl) (rn_neq rfl rfl) ?_
 refine lx_dec (fun h4 => ?_) (fun h4 => ?_)
 ·
  refine lx_value (want rfl) (mv_bool rfl) ?_
  refine lx_value (want_if (j := 3) (d := 6) (x := true) (y := true) rfl rfl (by decide) rfl) (rn_loadBlk ag_36 sz_36 rfl B1 rfl rfl) ?_
  refine lx_call (want_if (j := 3) (d := 6) (x := true) (y := true) rfl rfl (by decide) rfl) (ent_func cf_75 (argsC (t_agg rfl) (argsC (t_int rfl) args0))) (isvalue_ct z.1 z.2 0 (by omega) w1) ?_
  rintro _ w2 E1 rfl
  have F2 := F1.ext E1
  have hz1 := E1.size
  refine lx_split (fun hv => ?_) (fun hv => ?_)
  ·
   refine lx_value (want_if (j := 3) (d := 6) (x := true) (y := true) rfl rfl (by decide) rfl) (rn_not rfl) ?_
   refine lx_value (want rfl) (pick_t rfl rfl) ?_
   refine lx_value (want rfl) (mv_bool rfl) ?_
   refine lx_value (want_if (j := 8) (d := 11) (x := false) (y := false) rfl rfl (by decide) rfl) (rn_fieldAddr fa_36_1 rfl) ?_
   refine lx_value (want_if (j := 8) (d := 11) (x := false) (y := false) rfl rfl (by decide) rfl) (rn_load1Blk ag_3 rfl (B1.ext E1) rfl) ?_
   refine lx_value (want_if (j := 8) (d := 11) (x := false) (y := false) rfl rfl (by decide) rfl) (rn_lss rfl rfl) ?_
   refine lx_dec (fun hn => ?_) (fun hn => ?_)
   ·
    refine lx_value (want_if (j := 8) (d := 11) (x := false) (y := false) rfl rfl (by decide) rfl) (mv_bool rfl) ?_
    refine lx_value (want_if (j := 12) (d := 15) (x := true) (y := true) rfl rfl (by decide) rfl) (rn_fieldAddr fa_36_0 rfl) ?_
    refine lx_value (want_if (j := 12) (d := 15) (x := true) (y := true) rfl rfl (by decide) rfl) (rn_load1Blk ag_5 rfl (B1.ext E1) rfl) ?_
    refine lx_value (want_if (j := 12) (d := 15) (x := true) (y := true) rfl rfl (by decide) rfl) (rn_eql rfl rfl) ?_
    refine lx_value (want_if (j := 8) (d := 11) (x := false) (y := false) rfl rfl (by decide) rfl) (pick_t rfl rfl) ?_
    refine lx_value (want rfl) (pick_f rfl rfl) ?_
    refine lx_value (want rfl) (as_bool rfl) ?_
    refine lx_nil ?_
    refine wk_ret ?_
    refine retR1 Tryz.results83 (.tmp (t_bool rfl)) F2 ?_
    first | exact pv_f h4 hv | exact pv_g h4 hn | exact pv_b h4 hv | exact pv_c h4 hn | exact pv_d h4 hn | exact pv_e h4 hv hn
   ·
    refine lx_value (want_if (j := 8) (d := 11) (x := false) (y := false) rfl rfl (by decide) rfl) (mv_bool rfl) ?_
    refine lx_skip (want_if (j := 12) (d := 15) (x := true) (y := false) rfl rfl (by decide) rfl) ?_
    refine lx_skip (want_if (j := 12) (d := 15) (x := true) (y := false) rfl rfl (by decide) rfl) ?_
    refine lx_skip (want_if (j := 12) (d := 15) (x := true) (y := false) rfl rfl (by decide) rfl) ?_
    refine lx_value (want_if (j := 8) (d := 11) (x := false) (y := false) rfl rfl (by decide) rfl) (pick_f rfl rfl) ?_
    refine lx_value (want rfl) (pick_f rfl rfl) ?_
    refine lx_value (want rfl) (as_bool rfl) ?_
    refine lx_nil ?_
    refine wk_ret ?_
    refine retR1 Tryz.results83 (.tmp (t_bool rfl)) F2 ?_
    first | exact pv_f h4 hv | exact pv_g h4 hn | exact pv_b h4 hv | exact pv_c h4 hn | exact pv_d h4 hn | exact pv_e h4 hv hn
  ·
   refine lx_value (want_if (j := 3) (d := 6) (x := true) (y := true) rfl rfl (by decide) rfl) (rn_not rfl) ?_
   refine lx_value (want rfl) (pick_t rfl rfl) ?_
   refine lx_value (want rfl) (mv_bool rfl) ?_
   refine lx_skip (want_if (j := 8) (d := 11) (x := false) (y := true) rfl rfl (by decide) rfl) ?_
   refine lx_skip (want_if (j := 8) (d := 11) (x := false) (y := true) rfl rfl (by decide) rfl) ?_
   refine lx_skip (want_if (j := 8) (d := 11) (x := false) (y := true) rfl rfl (by decide) rfl) ?_
   refine lx_skip (want_if (j := 8) (d := 11) (x := false) (y := true) rfl rfl (by decide) rfl) ?_
   refine lx_skip (want_un (j := 12) (d := 15) (x := true) rfl rfl (by decide) rfl) ?_
   refine lx_skip (want_un (j := 12) (d := 15) (x := true) rfl rfl (by decide) rfl) ?_
   refine lx_skip (want_un (j := 12) (d := 15) (x := true) rfl rfl (by decide) rfl) ?_
   refine lx_skip (want_if (j := 8) (d := 11) (x := false) (y := true) rfl rfl (by decide) rfl) ?_
   refine lx_value (want rfl) (pick_t rfl rfl) ?_
   refine lx_value (want rfl) (as_bool rfl) ?_
   refine lx_nil ?_
   refine wk_ret ?_
   refine retR1 Tryz.results83 (.tmp (t_bool rfl)) F2 ?_
   first | exact pv_f h4 hv | exact pv_g h4 hn | exact pv_b h4 hv | exact pv_c h4 hn | exact pv_d h4 hn | exact pv_e h4 hv hn
 ·
  refine lx_value (want rfl) (mv_bool rfl) ?_
  refine lx_skip (want_if (j := 3) (d := 6) (x := true) (y := false) rfl rfl (by decide) rfl) ?_
  refine lx_skip (want_if (j := 3) (d := 6) (x := true) (y := false) rfl rfl (by decide) rfl) ?_
  refine lx_skip (want_if (j := 3) (d := 6) (x := true) (y := false) rfl rfl (by decide) rfl) ?_
  refine lx_value (want rfl) (pick_f rfl rfl) ?_
  refine lx_value (want rfl) (mv_bool rfl) ?_
  refine lx_value (want_if (j := 8) (d := 11) (x := false) (y := false) rfl rfl (by decide) rfl) (rn_fieldAddr fa_36_1 rfl) ?_
  refine lx_value (want_if (j := 8) (d := 11) (x := false) (y := false) rfl rfl (by decide) rfl) (rn_load1Blk ag_3 rfl B1 rfl) ?_
  refine lx_value (want_if (j := 8) (d := 11) (x := false) (y := false) rfl rfl (by decide) rfl) (rn_lss rfl rfl) ?_
  refine lx_dec (fun hn => ?_) (fun hn => ?_)
  ·
   refine lx_value (want_if (j := 8) (d := 11) (x := false) (y := false) rfl rfl (by decide) rfl) (mv_bool rfl) ?_
   refine lx_value (want_if (j := 12) (d := 15) (x := true) (y := true) rfl rfl (by decide) rfl) (rn_fieldAddr fa_36_0 rfl) ?_
   refine lx_value (want_if (j := 12) (d := 15) (x := true) (y := true) rfl rfl (by decide) rfl) (rn_load1Blk ag_5 rfl B1 rfl) ?_
   refine lx_value (want_if (j := 12) (d := 15) (x := true) (y := true) rfl rfl (by decide) rfl) (rn_eql rfl rfl) ?_
   refine lx_value (want_if (j := 8) (d := 11) (x := false) (y := false) rfl rfl (by decide) rfl) (pick_t rfl rfl) ?_
   refine lx_value (want rfl) (pick_f rfl rfl) ?_
   refine lx_value (want rfl) (as_bool rfl) ?_
   refine lx_nil ?_
   refine wk_ret ?_
   refine retR1 Tryz.results83 (.tmp (t_bool rfl)) F1 ?_
   first | exact pv_f h4 hv | exact pv_g h4 hn | exact pv_b h4 hv | exact pv_c h4 hn | exact pv_d h4 hn | exact pv_e h4 hv hn
  ·
   refine lx_value (want_if (j := 8) (d := 11) (x := false) (y := false) rfl rfl (by decide) rfl) (mv_bool rfl) ?_
   refine lx_skip (want_if (j := 12) (d := 15) (x := true) (y := false) rfl rfl (by decide) rfl) ?_
   refine lx_skip (want_if (j := 12) (d := 15) (x := true) (y := false) rfl rfl (by decide) rfl) ?_
   refine lx_skip (want_if (j := 12) (d := 15) (x := true) (y := false) rfl rfl (by decide) rfl) ?_
   refine lx_value (want_if (j := 8) (d := 11) (x := false) (y := false) rfl rfl (by decide) rfl) (pick_f rfl rfl) ?_
   refine lx_value (want rfl) (pick_f rfl rfl) ?_
   refine lx_value (want rfl) (as_bool rfl) ?_
   refine lx_nil ?_
   refine wk_ret ?_
   refine retR1 Tryz.results83 (.tmp (t_bool rfl)) F1 ?_
   first | exact pv_f h4 hv | exact pv_g h4 hn | exact pv_b h4 hv | exact pv_c h4 hn | exact pv_d h4 hn | exact pv_e h4 hv hn

theorem repeat_ct (n : Nat) (hn : n ≤ 100) (bx : Nat) (w0 : World) (BX : Blk w0 bx hzC 36) :
  CT Tryz.prog 152 [.slice (some ⟨bx, 0, none⟩) 1 1, .int .i64 n] w0 no (fun v w => ∃ b4, v = .slice (some ⟨b4, 0, none⟩) n n ∧ w0.heap.size ≤ b4 ∧ Blk w b4 ((List.replicate n hzC).flatten) 36) := by
 have hlx := BX.lt
 have hmn : Nat.min 1 n ≤ 1 := Nat.min_le_left _ _
 have hmn2 : Nat.min 1 n ≤ n := Nat.min_le_right _ _
 have F0 := Fr.refl no w0
 refine ct_body Tryz.func152 rfl Tryz.ntmps152 (Nat.le_of_ble_eq_true rfl) ?_
 refine wk_seq ?_
 refine wk_region ?_
 refine lx_value (want rfl) (as_slice rfl) ?_
 refine lx_nil ?_
 refine wk_seq ?_
 refine wk_seq ?_
 refine wk_region ?_
 refine lx_value (want rfl) (mv_int rfl) ?_
 refine lx_value (want rfl) (rn_lss rfl rfl) ?_
 refine lx_dec_f ((by omega)) ?_
 refine lx_nil ?_
 refine wk_cond_f rfl ?_
 refine wk_skip ?_
 refine wk_seq ?_
 refine wk_region ?_
 refine lx_value (want rfl) (mv_slice rfl) ?_
 refine lx_value (want rfl) (rn_len Tryz.underlying30 rfl) ?_
 refine lx_value (want rfl) (rn_conv Tryz.underlying3 Tryz.underlying100 rfl (wrapU64_nat (by omega))) ?_
 refine lx_value (want rfl) (mv_int rfl) ?_
 refine lx_value (want rfl) (rn_conv Tryz.underlying3 Tryz.underlying100 rfl (wrapU64_nat (by omega))) ?_
 refine lx_call (want rfl) (ent_func cf_160 (argsC (t_int rfl) (argsC (t_int rfl) args0))) (mul_ct n hn w0) ?_
 rintro _ w1 E1 rfl
 have F1 := F0.ext E1
 have hz1 := E1.size
 refine lx_value (want rfl) (mv_tuple rfl) ?_
 refine lx_value (want rfl) (rn_extract rfl rfl) ?_
 refine lx_value (want rfl) (rn_extract rfl rfl) ?_
 refine lx_value (want rfl) (as_int rfl) ?_
 refine lx_value (want rfl) (as_int rfl) ?_
 refine lx_nil ?_
 refine wk_seq ?_
 refine wk_seq ?_
 refine wk_region ?_
 refine lx_value (want rfl) (mv_int rfl) ?_
 refine lx_value (want rfl) (rn_gtr rfl rfl) ?_
 refine lx_dec_f ((by omega)) ?_
 refine lx_value (want rfl) (mv_bool rfl) ?_
 refine lx_value (want_if (j := 2) (d := 23) (x := false) (y := false) rfl rfl (by decide) rfl) (mv_int rfl) ?_
 refine lx_value (want_if (j := 2) (d := 23) (x := false) (y := false) rfl rfl (by decide) rfl) (rn_gtr rfl rfl) ?_
 refine lx_dec_f ((by omega)) ?_
 refine lx_value (want rfl) (pick_f rfl rfl) ?_
 refine lx_nil ?_
 refine wk_cond_f rfl ?_
 refine wk_skip ?_
 refine wk_seq ?_
 refine wk_region ?_
 refine lx_value (want rfl) (mv_int rfl) ?_
 refine lx_value (want rfl) (rn_conv Tryz.underlying100 Tryz.underlying3 rfl (wrap64_nat (by omega))) ?_
 refine lx_newS (want rfl) (rn_makeSliceN (n := n) Tryz.underlying30 ti_36 rfl (by decide) rfl rfl rfl (by omega)) ?_
 intro b21 w2 hb21 Eb21 B21 hlb21
 have F2 := F1.ext Eb21
 have hzb21 := Eb21.size
 refine lx_value (want rfl) (as_slice rfl) ?_
 refine lx_nil ?_
 refine wk_seq ?_
 refine wk_region ?_
 refine lx_value (want rfl) (mv_slice rfl) ?_
 refine lx_value (want rfl) (mv_slice rfl) ?_
 refine lx_value (want rfl) (rn_copySame (k := Nat.min 1 n) (cs' := ((List.replicate (Nat.min 1 n) hzC).flatten)) Tryz.underlying30 sz_36 rfl rfl rfl B21 (rep_len _) (rep_seg0 hmn2) (Nat.zero_le _) (rep_src1 ((BX.ext E1).ext Eb21) hmn) (rep_one _)) ?_
 refine lx_value (want rfl) (as_int rfl) ?_
 refine lx_nil ?_
 refine wk_seq ?_
 refine wk_block ?_
 refine wk_loopA [8, 34, 35, 36, 37, 38, 39, 40, 41, 42, 43, 44, 45, 46] no (fun nM ρ w => ∃ (k : Nat), nM = n - k ∧ ρ 8 = .int .i64 (k : Nat) ∧ (k ≤ n) ∧ (0 < n → 0 < k)) _ ⟨(Nat.min 1 n), rfl, rfl, hmn2, (fun h => by have : Nat.min 1 n = 1 := Nat.min_eq_left (by omega); omega)⟩ ?_
 rintro n1 ρ1 w3 A1 EL1 ⟨k, rfl, hs1_8, hk, hk1⟩
 have F3 := F2.ext EL1
 have hzL1 := EL1.size
 refine wk_seq ?_
 refine wk_seq ?_
 refine wk_region ?_
 refine lx_value (want rfl) (mv_int hs1_8) ?_
 refine lx_value (want rfl) (mv_slice (A1.at 7 rfl rfl)) ?_
 refine lx_value (want rfl) (rn_len Tryz.underlying30 rfl) ?_
 refine lx_value (want rfl) (rn_lss rfl rfl) ?_
 refine lx_dec (fun hlt => ?_) (fun hlt => ?_)
 ·
  refine lx_nil ?_
  refine wk_cond_t rfl ?_
  refine wk_skip ?_
  refine wk_block ?_
  refine wk_mix 8 (fun _ => .none) (by kernel_rfl) (by kernel_rfl) (fun kS G hk => by cases hk) (fun kS s y G hk => by cases hk) ?_
  simp only [List.take_succ_cons, List.take_zero, List.take_nil, List.drop_succ_cons, List.drop_zero, List.drop_nil]
  refine mx_calm rfl (want rfl) (fun u1 eu1 fu1 => mv_int hs1_8) ?_
  refine mx_calm rfl (want rfl) (fun u2 eu2 fu2 => mv_slice (A1.at 7 rfl rfl)) ?_
  refine mx_calm rfl (want rfl) (fun u3 eu3 fu3 => mv_int hs1_8) ?_
  refine mx_calm (v := .slice (some ⟨b21, k * 2, none⟩) (n - k) (n - k)) rfl (want rfl) (fun u4 eu4 fu4 => (by rw [← drop_some (b := b21) (show k < n by omega)]; exact rn_sliceFrom k Tryz.underlying30 sz_36 rfl rfl rfl (by omega))) ?_
  refine mx_calm rfl (want rfl) (fun u5 eu5 fu5 => mv_slice (A1.at 7 rfl rfl)) ?_
  refine mx_calm rfl (want rfl) (fun u6 eu6 fu6 => mv_int hs1_8) ?_
  refine mx_calm (v := .slice (some ⟨b21, 0, none⟩) k n) rfl (want rfl) (fun u7 eu7 fu7 => rn_sliceTo k Tryz.underlying30 sz_36 rfl rfl rfl (by omega)) ?_
  refine mx_calm (v := .int .i64 ((Nat.min k (n - k) : Nat) : Int)) rfl (want rfl) (fun u8 eu8 fu8 => rn_copySame (k := Nat.min k (n - k)) (cs' := ((List.replicate (Nat.min k (n - k)) hzC).flatten)) Tryz.underlying30 sz_36 rfl rfl rfl ((B21.ext EL1).ext ((ext_drawn _).trans' eu8)) (rep_len _) (rep_seg (by have : Nat.min k (n - k) ≤ n - k := Nat.min_le_right _ _; omega)) (by rw [rep_len]; omega) (rep_srcN ((B21.ext EL1).ext ((ext_drawn _).trans' eu8)) (by have : Nat.min k (n - k) ≤ k := Nat.min_le_left _ _; omega)) (rep_one _)) ?_
  refine mx_nil (fun w4 E2' H1 HS => ?_)
  have E2 := (ext_drawn _).trans' E2'
  have F4 := F3.ext E2
  have hz2 := E2.size
  refine lx_value (want rfl) (rn_addN rfl rfl (by have : Nat.min k (n - k) ≤ n - k := Nat.min_le_right _ _; omega)) ?_
  refine lx_value (want rfl) (as_int rfl) ?_
  refine lx_nil ?_
  exact ⟨rfl, ((((((((((((((A1.up rfl _).up rfl _).up rfl _).up rfl _).up rfl _).up rfl _).up rfl _).up rfl _).up rfl _).up rfl _).up rfl _).up rfl _).up rfl _).up rfl _), (Fr.ext EL1 E2), _, (by have h1 := hk1 (by omega); have h2 : 0 < Nat.min k (n - k) := Nat.lt_min.2 ⟨h1, by omega⟩; have : Nat.min k (n - k) ≤ n - k := Nat.min_le_right _ _; omega), (k + Nat.min k (n - k)), rfl, rfl, by have : Nat.min k (n - k) ≤ n - k := Nat.min_le_right _ _; omega, (fun h => by have := hk1 h; omega)⟩
 ·
  refine lx_nil ?_
  refine wk_cond_f rfl ?_
  refine wk_exit ?_
  refine wk_seq ?_
  refine wk_region ?_
  refine lx_value (want rfl) (mv_slice (A1.at 7 rfl rfl)) ?_
  refine lx_value (want rfl) (as_slice rfl) ?_
  refine lx_nil ?_
  refine wk_ret ?_
  refine retR1 Tryz.results152 (.tmp (t_slice rfl)) F3 ?_
  exact ⟨_, rfl, by omega, (B21.ext EL1)⟩

theorem psame_ct (p : Pic) (sv : Option Addr) (cv : Nat) (sk : Option Addr) (ck : Nat) (G : Nat → Prop) (q : Pic) (sv2 : Option Addr) (cv2 : Nat) (sk2 : Option Addr) (ck2 : Nat) (G2 : Nat → Prop) (hB : Bp q) (w0 : World) (hv : VlS G w0 sv p.1) (hk : VvS G w0 sk p.2) (hv2 : VlS G2 w0 sv2 q.1) (hk2 : VvS G2 w0 sk2 q.2) :
  CT Tryz.prog 80 [.agg #[.slice sv p.1.length cv, .slice sk p.2.length ck], .agg #[.slice sv2 q.1.length cv2, .slice sk2 q.2.length ck2]] w0 no (fun v _ => v = .bool (decide (p = q))) := by
 have hB1 := hB.1
 have hB2 := hB.2.1
 have F0 := Fr.refl no w0
 refine ct_body Tryz.func80 rfl Tryz.ntmps80 (Nat.le_of_ble_eq_true rfl) ?_
 refine wk_seq ?_
 refine wk_region ?_
 refine lx_new (want rfl) (rn_box (t_agg rfl)) ?_
 intro b1 w1 hb1 Eb1 B1 hlb1
 have F1 := F0.ext Eb1
 have hzb1 := Eb1.size
 refine lx_new (want rfl) (rn_box (t_agg rfl)) ?_
 intro b2 w2 hb2 Eb2 B2 hlb2
 have F2 := F1.ext Eb2
 have hzb2 := Eb2.size
 refine lx_value (want rfl) (as_bool rfl) ?_
 refine lx_nil ?_
 refine wk_seq ?_
 refine wk_region ?_
 refine lx_value (want rfl) (rn_fieldAddr fa_45_0 rfl) ?_
 refine lx_value (want rfl) (rn_load1Blk ag_30 rfl (B1.ext Eb2) rfl) ?_
 refine lx_value (want rfl) (rn_fieldAddr fa_45_0 rfl) ?_
 refine lx_value (want rfl) (rn_load1Blk ag_30 rfl B2 rfl) ?_
 refine lx_call (want rfl) (ent_func cf_122 (argsC (t_slice rfl) (argsC (t_slice rfl) args0))) (equalv_ct p.1 q.1 _ _ _ _ _ _ w2 (hv.fr (vl_stab _) F2 (fun _ _ h => h)) (hv2.fr (vl_stab _) F2 (fun _ _ h => h)) hB1) ?_
 rintro _ w3 E1 rfl
 have F3 := F2.ext E1
 have hz1 := E1.size
 refine lx_split (fun h1 => ?_) (fun h1 => ?_)
 ·
  refine lx_value (want rfl) (mv_bool rfl) ?_
  refine lx_value (want_if (j := 5) (d := 10) (x := true) (y := true) rfl rfl (by decide) rfl) (rn_fieldAddr fa_45_1 rfl) ?_
  refine lx_value (want_if (j := 5) (d := 10) (x := true) (y := true) rfl rfl (by decide) rfl) (rn_load1Blk ag_43 rfl ((B1.ext Eb2).ext E1) rfl) ?_
  refine lx_value (want_if (j := 5) (d := 10) (x := true) (y := true) rfl rfl (by decide) rfl) (rn_fieldAddr fa_45_1 rfl) ?_
  refine lx_value (want_if (j := 5) (d := 10) (x := true) (y := true) rfl rfl (by decide) rfl) (rn_load1Blk ag_43 rfl (B2.ext E1) rfl) ?_
  refine lx_call (want_if (j := 5) (d := 10) (x := true) (y := true) rfl rfl (by decide) rfl) (ent_func cf_123 (argsC (t_slice rfl) (argsC (t_slice rfl) (argsC rfl args0)))) (equalfv_ct p.2 q.2 _ _ _ _ _ _ w3 (hk.fr (vv_stab _) F3 (fun _ _ h => h)) (hk2.fr (vv_stab _) F3 (fun _ _ h => h)) hB2 hB.2.2) ?_
  rintro _ w4 E2 rfl
  have F4 := F3.ext E2
  have hz2 := E2.size
  refine lx_value (want rfl) (pick_t rfl rfl) ?_
  refine lx_value (want rfl) (as_bool rfl) ?_
  refine lx_nil ?_
  refine wk_ret ?_
  refine retR1 Tryz.results80 (.tmp (t_bool rfl)) F4 ?_
  exact pic_dec1 (of_decide_eq_true h1)
 ·
  refine lx_value (want rfl) (mv_bool rfl) ?_
  refine lx_skip (want_if (j := 5) (d := 10) (x := true) (y := false) rfl rfl (by decide) rfl) ?_
  refine lx_skip (want_if (j := 5) (d := 10) (x := true) (y := false) rfl rfl (by decide) rfl) ?_
  refine lx_skip (want_if (j := 5) (d := 10) (x := true) (y := false) rfl rfl (by decide) rfl) ?_
  refine lx_skip (want_if (j := 5) (d := 10) (x := true) (y := false) rfl rfl (by decide) rfl) ?_
  refine lx_skip (want_if (j := 5) (d := 10) (x := true) (y := false) rfl rfl (by decide) rfl) ?_
  refine lx_value (want rfl) (pick_f rfl rfl) ?_
  refine lx_value (want rfl) (as_bool rfl) ?_
  refine lx_nil ?_
  refine wk_ret ?_
  refine retR1 Tryz.results80 (.tmp (t_bool rfl)) F3 ?_
  exact no_dec (fun h => of_decide_eq_false h1 (by rw [h]))

theorem isthere_ct (k n : Int) (m : Nat) (hm : m ≤ 1048576) (w0 : World) :
  CT Tryz.prog 114 [.agg #[.int .u8 k, .int .i64 n], .int .i64 m] w0 no (fun v _ => v = .bool (decide (k ≠ 0) && isVal (k, n) m)) := by
 have F0 := Fr.refl no w0
 refine ct_body Tryz.func114 rfl Tryz.ntmps114 (Nat.le_of_ble_eq_true rfl) ?_
 refine wk_seq ?_
 refine wk_region ?_
 refine lx_new (want rfl) (rn_box (t_agg rfl)) ?_
 intro b1 w1 hb1 Eb1 B1 hlb1
 have F1 := F0.ext Eb1
 have hzb1 := Eb1.size
 refine lx_value (want rfl) (as_bool rfl) ?_
 refine lx_nil ?_
 refine wk_seq ?_
 refine wk_region ?_
 refine lx_value (want rfl) (rn_loadBlk ag_36 sz_36 rfl B1 rfl rfl) ?_
 refine lx_call (want rfl) (ent_func cf_99 (argsC (t_agg rfl) args0)) (ishole_ct _ _ w1) ?_
 rintro _ w2 E1 rfl
 have F2 := F1.ext E1
 have hz1 := E1.size
 refine lx_split (fun h0 => ?_) (fun h0 => ?_)
 ·
  refine lx_value (want rfl) (rn_not rfl) ?_
  refine lx_value (want rfl) (mv_bool rfl) ?_
  refine lx_skip (want_if (j := 3) (d := 8) (x := true) (y := false) rfl rfl (by decide) rfl) ?_
  refine lx_skip (want_if (j := 3) (d := 8) (x := true) (y := false) rfl rfl (by decide) rfl) ?_
  refine lx_skip (want_if (j := 3) (d := 8) (x := true) (y := false) rfl rfl (by decide) rfl) ?_
  refine lx_value (want rfl) (pick_f rfl rfl) ?_
  refine lx_value (want rfl) (as_bool rfl) ?_
  refine lx_nil ?_
  refine wk_ret ?_
  refine retR1 Tryz.results114 (.tmp (t_bool rfl)) F2 ?_
  exact there_f (of_decide_eq_true h0)
 ·
  refine lx_value (want rfl) (rn_not rfl) ?_
  refine lx_value (want rfl) (mv_bool rfl) ?_
  refine lx_value (want_if (j := 3) (d := 8) (x := true) (y := true) rfl rfl (by decide) rfl) (rn_loadBlk ag_36 sz_36 rfl (B1.ext E1) rfl rfl) ?_
  refine lx_value (want_if (j := 3) (d := 8) (x := true) (y := true) rfl rfl (by decide) rfl) (mv_int rfl) ?_
  refine lx_call (want_if (j := 3) (d := 8) (x := true) (y := true) rfl rfl (by decide) rfl) (ent_func cf_75 (argsC (t_agg rfl) (argsC (t_int rfl) args0))) (isvalue_ct _ _ _ (by omega) w2) ?_
  rintro _ w3 E2 rfl
  have F3 := F2.ext E2
  have hz2 := E2.size
  refine lx_value (want rfl) (pick_t rfl rfl) ?_
  refine lx_value (want rfl) (as_bool rfl) ?_
  refine lx_nil ?_
  refine wk_ret ?_
  refine retR1 Tryz.results114 (.tmp (t_bool rfl)) F3 ?_
  exact there_t (of_decide_eq_false h0)

theorem divided_ct (b z : Int) (fid : FuncId) (caps : List Value) (hcf : ∀ args w, (callFunc fid args).run Tryz.prog w = .ok (.enter fid args) w) (w0 : World) (hn : ¬ b = 0 → ∀ w, Ext w0 w → CT Tryz.prog fid caps w no (fun v _ => v = .int .i64 z)) :
  CT Tryz.prog 129 [.int .i64 b, .func (.func fid) #[] caps.toArray] w0 no (fun v _ => v = vlV (divV b z)) := by
 have F0 := Fr.refl no w0
 refine ct_body Tryz.func129 rfl Tryz.ntmps129 (Nat.le_of_ble_eq_true rfl) ?_
 refine wk_seq ?_
 refine wk_region ?_
 refine lx_new (want rfl) (rn_alloc ze_36) ?_
 intro b1 w1 hb1 Eb1 B1 hlb1
 have F1 := F0.ext Eb1
 have hzb1 := Eb1.size
 refine lx_nil ?_
 refine wk_seq ?_
 refine wk_seq ?_
 refine wk_region ?_
 refine lx_value (want rfl) (mv_int rfl) ?_
 refine lx_value (want rfl) (rn_eql rfl rfl) ?_
 refine lx_dec (fun h0 => ?_) (fun h0 => ?_)
 ·
  refine lx_nil ?_
  refine wk_cond_t rfl ?_
  refine wk_seq ?_
  refine wk_region ?_
  refine lx_call (want rfl) (ent_func cf_141 (argsC (t_int rfl) args0)) (bad_ct _ w1) ?_
  rintro _ w2 E1 rfl
  have F2 := F1.ext E1
  have hz1 := E1.size
  refine lx_set (want rfl) sz_36 rfl (t_agg rfl) rfl rfl rfl (B1.ext E1) (Nat.le_of_ble_eq_true rfl) ?_
  intro w3 Es1 Bs1
  have F3 := F2.set Es1 (by omega)
  have hzs1 := Es1.size
  refine lx_nil ?_
  refine wk_ret ?_
  refine retR1 Tryz.results129 (.cell rfl (run_loadVar_blk ag_36 sz_36 Bs1 rfl rfl)) F3 ?_
  exact dv_0 h0
 ·
  refine lx_nil ?_
  refine wk_cond_f rfl ?_
  refine wk_skip ?_
  refine wk_seq ?_
  refine wk_region ?_
  refine lx_value (want rfl) (mv_func rfl) ?_
  refine lx_call (want rfl) (ent_value hcf rfl args0) (hn h0 w1 F1) ?_
  rintro _ w2 E2 rfl
  have F4 := F1.ext E2
  have hz2 := E2.size
  refine lx_call (want rfl) (ent_func cf_125 (argsC (t_int rfl) args0)) (sized_ct _ w2) ?_
  rintro _ w3 E3 rfl
  have F5 := F4.ext E3
  have hz3 := E3.size
  refine lx_set (want rfl) sz_36 rfl (t_agg rfl) rfl rfl rfl ((B1.ext E2).ext E3) (Nat.le_of_ble_eq_true rfl) ?_
  intro w4 Es2 Bs2
  have F6 := F5.set Es2 (by omega)
  have hzs2 := Es2.size
  refine lx_nil ?_
  refine wk_ret ?_
  refine retR1 Tryz.results129 (.cell rfl (run_loadVar_blk ag_36 sz_36 Bs2 rfl rfl)) F6 ?_
  exact dv_1 h0

theorem pdraw1_ct (z : Vl) (n : Nat) (hn : n ≤ 1048576) (bp b : Nat) (sM : Option Addr) (cM : Nat) (wt : Int) (stM : Option Addr) (nt ctM : Nat) (w0 : World) (BP : Blk w0 bp [.pointer (some ⟨b, 0, none⟩)] 108) (BM : Blk w0 b [.slice sM n cM, .int .i64 wt, .slice stM nt ctM] 113) :
  CT Tryz.prog 74 [vlV z, .pointer (some ⟨bp, 0, none⟩)] w0 no (fun v _ => v = .bool (!isVal z n)) := by
 have F0 := Fr.refl no w0
 refine ct_body Tryz.func74 rfl Tryz.ntmps74 (Nat.le_of_ble_eq_true rfl) ?_
 refine wk_seq ?_
 refine wk_region ?_
 refine lx_new (want rfl) (rn_box (t_agg rfl)) ?_
 intro b21 w1 hb21 Eb21 B21 hlb21
 have F1 := F0.ext Eb21
 have hzb21 := Eb21.size
 refine lx_value (want rfl) (as_bool rfl) ?_
 refine lx_nil ?_
 refine wk_seq ?_
 refine wk_mix 6 (fun _ => .none) (by kernel_rfl) (by kernel_rfl) (fun kS G hk => by cases hk) (fun kS s y G hk => by cases hk) ?_
 simp only [List.take_succ_cons, List.take_zero, List.take_nil, List.drop_succ_cons, List.drop_zero, List.drop_nil]
 refine mx_calm rfl (want rfl) (fun u1 eu1 fu1 => rn_loadBlk ag_36 sz_36 rfl (B21.ext ((ext_drawn _).trans' eu1)) rfl rfl) ?_
 refine mx_calm rfl (want rfl) (fun u2 eu2 fu2 => rn_load1Blk ag_108 rfl ((BP.ext Eb21).ext ((ext_drawn _).trans' eu2)) rfl) ?_
 refine mx_calm rfl (want rfl) (fun u3 eu3 fu3 => rn_nilCheck rfl) ?_
 refine mx_calm rfl (want rfl) (fun u4 eu4 fu4 => rn_fieldAddr fa_113_0 rfl) ?_
 refine mx_calm rfl (want rfl) (fun u5 eu5 fu5 => rn_load1Blk ag_22 rfl ((BM.ext Eb21).ext ((ext_drawn _).trans' eu5)) rfl) ?_
 refine mx_calm rfl (want rfl) (fun u6 eu6 fu6 => rn_len Tryz.underlying22 rfl) ?_
 refine mx_nil (fun w2 E1' H1 HS => ?_)
 have E1 := (ext_drawn _).trans' E1'
 have F2 := F1.ext E1
 have hz1 := E1.size
 refine lx_call (want rfl) (ent_func cf_75 (argsC (t_agg rfl) (argsC (t_int rfl) args0))) (isvalue_ct z.1 z.2 n hn w2) ?_
 rintro _ w3 E2 rfl
 have F3 := F2.ext E2
 have hz2 := E2.size
 refine lx_value (want rfl) (rn_not rfl) ?_
 refine lx_value (want rfl) (as_bool rfl) ?_
 refine lx_nil ?_
 refine wk_ret ?_
 refine retR1 Tryz.results74 (.tmp (t_bool rfl)) F3 ?_
 exact rfl

theorem op2_ct (a b : Int) (ha : -1000000000 ≤ a ∧ a ≤ 1000000000) (hb : -1000000000 ≤ b ∧ b ≤ 1000000000) (w0 : World) :
  CT Tryz.prog 127 [.int .i64 a, .int .i64 b] w0 no (fun v _ => v = vlV (workV 2 a b)) := by
 have F0 := Fr.refl no w0
 refine ct_body Tryz.func127 rfl Tryz.ntmps127 (Nat.le_of_ble_eq_true rfl) ?_
 refine wk_seq ?_
 refine wk_region ?_
 refine lx_new (want rfl) (rn_alloc ze_36) ?_
 intro b1 w1 hb1 Eb1 B1 hlb1
 have F1 := F0.ext Eb1
 have hzb1 := Eb1.size
 refine lx_nil ?_
 refine wk_seq ?_
 refine wk_region ?_
 refine lx_value (want rfl) (mv_int rfl) ?_
 refine lx_value (want rfl) (mv_int rfl) ?_
 refine lx_value (want rfl) (rn_mul rfl rfl (mul_bd ha hb)) ?_
 refine lx_call (want rfl) (ent_func cf_125 (argsC (t_int rfl) args0)) (sized_ct _ w1) ?_
 rintro _ w2 E1 rfl
 have F2 := F1.ext E1
 have hz1 := E1.size
 refine lx_set (want rfl) sz_36 rfl (t_agg rfl) rfl rfl rfl (B1.ext E1) (Nat.le_of_ble_eq_true rfl) ?_
 intro w3 Es1 Bs1
 have F3 := F2.set Es1 (by omega)
 have hzs1 := Es1.size
 refine lx_nil ?_
 refine wk_ret ?_
 refine retR1 Tryz.results127 (.cell rfl (run_loadVar_blk ag_36 sz_36 Bs1 rfl rfl)) F3 ?_
 exact rfl

theorem op0_ct (a b : Int) (ha : -1000000000 ≤ a ∧ a ≤ 1000000000) (hb : -1000000000 ≤ b ∧ b ≤ 1000000000) (w0 : World) :
  CT Tryz.prog 124 [.int .i64 a, .int .i64 b] w0 no (fun v _ => v = vlV (workV 0 a b)) := by
 have F0 := Fr.refl no w0
 refine ct_body Tryz.func124 rfl Tryz.ntmps124 (Nat.le_of_ble_eq_true rfl) ?_
 refine wk_seq ?_
 refine wk_region ?_
 refine lx_new (want rfl) (rn_alloc ze_36) ?_
 intro b1 w1 hb1 Eb1 B1 hlb1
 have F1 := F0.ext Eb1
 have hzb1 := Eb1.size
 refine lx_nil ?_
 refine wk_seq ?_
 refine wk_region ?_
 refine lx_value (want rfl) (mv_int rfl) ?_
 refine lx_value (want rfl) (mv_int rfl) ?_
 refine lx_value (want rfl) (rn_add rfl rfl (by omega)) ?_
 refine lx_call (want rfl) (ent_func cf_125 (argsC (t_int rfl) args0)) (sized_ct _ w1) ?_
 rintro _ w2 E1 rfl
 have F2 := F1.ext E1
 have hz1 := E1.size
 refine lx_set (want rfl) sz_36 rfl (t_agg rfl) rfl rfl rfl (B1.ext E1) (Nat.le_of_ble_eq_true rfl) ?_
 intro w3 Es1 Bs1
 have F3 := F2.set Es1 (by omega)
 have hzs1 := Es1.size
 refine lx_nil ?_
 refine wk_ret ?_
 refine retR1 Tryz.results124 (.cell rfl (run_loadVar_blk ag_36 sz_36 Bs1 rfl rfl)) F3 ?_
 exact rfl

theorem op1_ct (a b : Int) (ha : -1000000000 ≤ a ∧ a ≤ 1000000000) (hb : -1000000000 ≤ b ∧ b ≤ 1000000000) (w0 : World) :
  CT Tryz.prog 126 [.int .i64 a, .int .i64 b] w0 no (fun v _ => v = vlV (workV 1 a b)) := by
 have F0 := Fr.refl no w0
 refine ct_body Tryz.func126 rfl Tryz.ntmps126 (Nat.le_of_ble_eq_true rfl) ?_
 refine wk_seq ?_
 refine wk_region ?_
 refine lx_new (want rfl) (rn_alloc ze_36) ?_
 intro b1 w1 hb1 Eb1 B1 hlb1
 have F1 := F0.ext Eb1
 have hzb1 := Eb1.size
 refine lx_nil ?_
 refine wk_seq ?_
 refine wk_region ?_
 refine lx_value (want rfl) (mv_int rfl) ?_
 refine lx_value (want rfl) (mv_int rfl) ?_
 refine lx_value (want rfl) (rn_sub rfl rfl (by omega)) ?_
 refine lx_call (want rfl) (ent_func cf_125 (argsC (t_int rfl) args0)) (sized_ct _ w1) ?_
 rintro _ w2 E1 rfl
 have F2 := F1.ext E1
 have hz1 := E1.size
 refine lx_set (want rfl) sz_36 rfl (t_agg rfl) rfl rfl rfl (B1.ext E1) (Nat.le_of_ble_eq_true rfl) ?_
 intro w3 Es1 Bs1
 have F3 := F2.set Es1 (by omega)
 have hzs1 := Es1.size
 refine lx_nil ?_
 refine wk_ret ?_
 refine retR1 Tryz.results126 (.cell rfl (run_loadVar_blk ag_36 sz_36 Bs1 rfl rfl)) F3 ?_
 exact rfl

theorem isstruct1_ct (z : Vl) (m b3 : Nat) (hm : m ≤ 1048576) (w0 : World) (B3 : Blk w0 b3 [.int .i64 m] 3) :
  CT Tryz.prog 149 [vlV z, .pointer (some ⟨b3, 0, none⟩)] w0 no (fun v _ => v = .bool (!isVal z m)) := by
 have F0 := Fr.refl no w0
 refine ct_body Tryz.func149 rfl Tryz.ntmps149 (Nat.le_of_ble_eq_true rfl) ?_
 refine wk_seq ?_
 refine wk_region ?_
 refine lx_new (want rfl) (rn_box (t_agg rfl)) ?_
 intro b21 w1 hb21 Eb21 B21 hlb21
 have F1 := F0.ext Eb21
 have hzb21 := Eb21.size
 refine lx_value (want rfl) (as_bool rfl) ?_
 refine lx_nil ?_
 refine wk_seq ?_
 refine wk_region ?_
 refine lx_value (want rfl) (rn_loadBlk ag_36 sz_36 rfl B21 rfl rfl) ?_
 refine lx_value (want rfl) (rn_load1Blk ag_3 rfl (B3.ext Eb21) rfl) ?_
 refine lx_call (want rfl) (ent_func cf_75 (argsC (t_agg rfl) (argsC (t_int rfl) args0))) (isvalue_ct _ _ _ (by omega) w1) ?_
 rintro _ w2 E1 rfl
 have F2 := F1.ext E1
 have hz1 := E1.size
 refine lx_value (want rfl) (rn_not rfl) ?_
 refine lx_value (want rfl) (as_bool rfl) ?_
 refine lx_nil ?_
 refine wk_ret ?_
 refine retR1 Tryz.results149 (.tmp (t_bool rfl)) F2 ?_
 exact rfl

theorem op5_ct (a b : Int) (ha : -1000000000 ≤ a ∧ a ≤ 1000000000) (hb : -1000000000 ≤ b ∧ b ≤ 1000000000) (w0 : World) :
  CT Tryz.prog 133 [.int .i64 a, .int .i64 b] w0 no (fun v _ => v = vlV (workV 5 a b)) := by
 have F0 := Fr.refl no w0
 refine ct_body Tryz.func133 rfl Tryz.ntmps133 (Nat.le_of_ble_eq_true rfl) ?_
 refine wk_seq ?_
 refine wk_region ?_
 refine lx_new (want rfl) (rn_alloc ze_36) ?_
 intro b1 w1 hb1 Eb1 B1 hlb1
 have F1 := F0.ext Eb1
 have hzb1 := Eb1.size
 refine lx_nil ?_
 refine wk_seq ?_
 refine wk_region ?_
 refine lx_value (want rfl) (mv_int rfl) ?_
 refine lx_value (want rfl) (rn_neg rfl (by omega)) ?_
 refine lx_call (want rfl) (ent_func cf_125 (argsC (t_int rfl) args0)) (sized_ct _ w1) ?_
 rintro _ w2 E1 rfl
 have F2 := F1.ext E1
 have hz1 := E1.size
 refine lx_set (want rfl) sz_36 rfl (t_agg rfl) rfl rfl rfl (B1.ext E1) (Nat.le_of_ble_eq_true rfl) ?_
 intro w3 Es1 Bs1
 have F3 := F2.set Es1 (by omega)
 have hzs1 := Es1.size
 refine lx_nil ?_
 refine wk_ret ?_
 refine retR1 Tryz.results133 (.cell rfl (run_loadVar_blk ag_36 sz_36 Bs1 rfl rfl)) F3 ?_
 exact rfl

end Go.Proofs.YtnhgfmbmfjmonaaGreatDoor

/- What functions compute: cell, copypic, pofcells, samepic, concat, isvalue. -/
import Derived.Test.YtnhgfmbmfjmonaaGreatDoorNamesFacts
import Derived.Test.YtnhgfmbmfjmonaaGreatDoorNamesPre
import Derived.Test.YtnhgfmbmfjmonaaGreatDoorNamesWalk1
import Derived.Test.YtnhgfmbmfjmonaaGreatDoorNamesWalk2
set_option maxRecDepth 100000
set_option linter.unusedVariables false
set_option linter.unusedSimpArgs false
namespace Go.Proofs.YtnhgfmbmfjmonaaGreatDoor
open Go Go.RowKit Go.Mix Go.Eng
theorem cell_ct (m : Mem) (b : Nat) (s : Option Addr) (c : Nat) (T : List (SE Vl Rd)) (wt : Int) (st : Option Addr) (nt ct : Nat) (hBl : Bm m) (s2 ix : Vl) (hs : s2.1 = 4 → 0 ≤ s2.2 ∧ num s2 < m.length) (w0 : World) (hBm : Blk w0 b [.slice s T.length c, .int .i64 wt, .slice st nt ct] 113) (hT : T.map SE.abs = m) (hTm : MTab w0 65 36 2 vlC 115 2 rdC s c T) :
  CT Tryz.prog 153 [.pointer (some ⟨b, 0, none⟩), .agg #[.int .u8 s2.1, .int .i64 s2.2], .agg #[.int .u8 ix.1, .int .i64 ix.2]] w0 no (fun v _ => CellP m T s2 ix v) := by
 have hlb := hBm.lt
 have F0 := Fr.refl no w0
 refine ct_body Tryz.func153 rfl Tryz.ntmps153 (Nat.le_of_ble_eq_true rfl) ?_
 refine wk_seq ?_
 refine wk_region ?_
 refine lx_new (want rfl) (rn_box (t_agg rfl)) ?_
 intro b21 w1 hb21 Eb21 B21 hlb21
 have F1 := F0.ext Eb21
 have hzb21 := Eb21.size
 refine lx_new (want rfl) (rn_box (t_agg rfl)) ?_
 intro b22 w2 hb22 Eb22 B22 hlb22
 have F2 := F1.ext Eb22
 have hzb22 := Eb22.size
 refine lx_value (want rfl) (as_pointer rfl) ?_
 refine lx_nil ?_
 refine wk_seq ?_
 refine wk_seq ?_
 refine wk_mix 22 (fun _ => .none) (by kernel_rfl) (by kernel_rfl) (fun kS G hk => by cases hk) (fun kS s y G hk => by cases hk) ?_
 simp only [List.take_succ_cons, List.take_zero, List.take_nil, List.drop_succ_cons, List.drop_zero, List.drop_nil]
 refine mx_calm rfl (want rfl) (fun u1 eu1 fu1 => rn_fieldAddr fa_36_0 rfl) ?_
 refine mx_calm rfl (want rfl) (fun u2 eu2 fu2 => rn_load1Blk ag_5 rfl ((B21.ext Eb22).ext ((ext_drawn _).trans' eu2)) rfl) ?_
 refine mx_calm rfl (want rfl) (fun u3 eu3 fu3 => rn_neq rfl rfl) ?_
 refine mx_dec (fun h4 => ?_) (fun h4 => ?_)
 ·
  refine mx_calm rfl (want rfl) (fun u4 eu4 fu4 => mv_bool rfl) ?_
  refine mx_skip (want_if (j := 3) (d := 10) (x := false) (y := true) rfl rfl (by decide) rfl) ?_
  refine mx_skip (want_if (j := 3) (d := 10) (x := false) (y := true) rfl rfl (by decide) rfl) ?_
  refine mx_skip (want_if (j := 3) (d := 10) (x := false) (y := true) rfl rfl (by decide) rfl) ?_
  refine mx_calm rfl (want rfl) (fun u5 eu5 fu5 => pick_t rfl rfl) ?_
  refine mx_calm rfl (want rfl) (fun u6 eu6 fu6 => mv_bool rfl) ?_
  refine mx_skip (want_if (j := 8) (d := 15) (x := false) (y := true) rfl rfl (by decide) rfl) ?_
  refine mx_skip (want_if (j := 8) (d := 15) (x := false) (y := true) rfl rfl (by decide) rfl) ?_
  refine mx_skip (want_if (j := 8) (d := 15) (x := false) (y := true) rfl rfl (by decide) rfl) ?_
  refine mx_skip (want_if (j := 8) (d := 15) (x := false) (y := true) rfl rfl (by decide) rfl) ?_
  refine mx_skip (want_if (j := 8) (d := 15) (x := false) (y := true) rfl rfl (by decide) rfl) ?_
  refine mx_skip (want_if (j := 8) (d := 15) (x := false) (y := true) rfl rfl (by decide) rfl) ?_
  refine mx_skip (want_if (j := 8) (d := 15) (x := false) (y := true) rfl rfl (by decide) rfl) ?_
  refine mx_skip (want_if (j := 8) (d := 15) (x := false) (y := true) rfl rfl (by decide) rfl) ?_
  refine mx_skip (want_if (j := 8) (d := 15) (x := false) (y := true) rfl rfl (by decide) rfl) ?_
  refine mx_skip (want_if (j := 8) (d := 15) (x := false) (y := true) rfl rfl (by decide) rfl) ?_
  refine mx_skip (want_if (j := 8) (d := 15) (x := false) (y := true) rfl rfl (by decide) rfl) ?_
  refine mx_skip (want_if (j := 8) (d := 15) (x := false) (y := true) rfl rfl (by decide) rfl) ?_
  refine mx_skip (want_if (j := 8) (d := 15) (x := false) (y := true) rfl rfl (by decide) rfl) ?_
  refine mx_nil (fun w3 E1' H1 HS => ?_)
  have E1 := (ext_drawn _).trans' E1'
  have F3 := F2.ext E1
  have hz1 := E1.size
  refine lx_skip (want_if (j := 8) (d := 15) (x := false) (y := true) rfl rfl (by decide) rfl) ?_
  refine lx_skip (want_if (j := 8) (d := 15) (x := false) (y := true) rfl rfl (by decide) rfl) ?_
  refine lx_value (want rfl) (pick_t rfl rfl) ?_
  refine lx_nil ?_
  refine wk_cond_t rfl ?_
  refine wk_seq ?_
  refine wk_region ?_
  refine lx_value (want rfl) (as_pointer rfl) ?_
  refine lx_nil ?_
  refine wk_ret ?_
  refine retR1 Tryz.results153 (.tmp (t_pointer rfl)) F3 ?_
  exact cell_no (decide_eq_false fun g => h4 g.1)
 ·
  have h4e : s2.1 = 4 := Decidable.not_not.1 h4
  obtain ⟨hs0, hsl⟩ := hs h4e
  obtain ⟨x, hx⟩ : ∃ x, m[num s2]? = some x := ⟨_, List.getElem?_eq_getElem hsl⟩
  have hBx := hBl.get hx
  obtain ⟨sA, cA, sB, cB, he⟩ := mtab_at hT hx
  obtain ⟨bT, oT, hsT, hcA, hcB⟩ := hTm.get he
  have hltT := (List.getElem?_eq_some_iff.1 he).1
  subst hsT
  refine mx_calm rfl (want rfl) (fun u7 eu7 fu7 => mv_bool rfl) ?_
  refine mx_calm rfl (want_if (j := 3) (d := 10) (x := false) (y := false) rfl rfl (by decide) rfl) (fun u8 eu8 fu8 => rn_fieldAddr fa_36_0 rfl) ?_
  refine mx_calm rfl (want_if (j := 3) (d := 10) (x := false) (y := false) rfl rfl (by decide) rfl) (fun u9 eu9 fu9 => rn_load1Blk ag_5 rfl (B22.ext ((ext_drawn _).trans' eu9)) rfl) ?_
  refine mx_calm rfl (want_if (j := 3) (d := 10) (x := false) (y := false) rfl rfl (by decide) rfl) (fun u10 eu10 fu10 => rn_neq rfl rfl) ?_
  refine mx_dec (fun h1 => ?_) (fun h1 => ?_)
  ·
   refine mx_calm rfl (want rfl) (fun u11 eu11 fu11 => pick_f rfl rfl) ?_
   refine mx_calm rfl (want rfl) (fun u12 eu12 fu12 => mv_bool rfl) ?_
   refine mx_skip (want_if (j := 8) (d := 15) (x := false) (y := true) rfl rfl (by decide) rfl) ?_
   refine mx_skip (want_if (j := 8) (d := 15) (x := false) (y := true) rfl rfl (by decide) rfl) ?_
   refine mx_skip (want_if (j := 8) (d := 15) (x := false) (y := true) rfl rfl (by decide) rfl) ?_
   refine mx_skip (want_if (j := 8) (d := 15) (x := false) (y := true) rfl rfl (by decide) rfl) ?_
   refine mx_skip (want_if (j := 8) (d := 15) (x := false) (y := true) rfl rfl (by decide) rfl) ?_
   refine mx_skip (want_if (j := 8) (d := 15) (x := false) (y := true) rfl rfl (by decide) rfl) ?_
   refine mx_skip (want_if (j := 8) (d := 15) (x := false) (y := true) rfl rfl (by decide) rfl) ?_
   refine mx_skip (want_if (j := 8) (d := 15) (x := false) (y := true) rfl rfl (by decide) rfl) ?_
   refine mx_skip (want_if (j := 8) (d := 15) (x := false) (y := true) rfl rfl (by decide) rfl) ?_
   refine mx_skip (want_if (j := 8) (d := 15) (x := false) (y := true) rfl rfl (by decide) rfl) ?_
   refine mx_skip (want_if (j := 8) (d := 15) (x := false) (y := true) rfl rfl (by decide) rfl) ?_
   refine mx_skip (want_if (j := 8) (d := 15) (x := false) (y := true) rfl rfl (by decide) rfl) ?_
   refine mx_skip (want_if (j := 8) (d := 15) (x := false) (y := true) rfl rfl (by decide) rfl) ?_
   refine mx_nil (fun w3 E2' H2 HS => ?_)
   have E2 := (ext_drawn _).trans' E2'
   have F4 := F2.ext E2
   have hz2 := E2.size
   refine lx_skip (want_if (j := 8) (d := 15) (x := false) (y := true) rfl rfl (by decide) rfl) ?_
   refine lx_skip (want_if (j := 8) (d := 15) (x := false) (y := true) rfl rfl (by decide) rfl) ?_
   refine lx_value (want rfl) (pick_t rfl rfl) ?_
   refine lx_nil ?_
   refine wk_cond_t rfl ?_
   refine wk_seq ?_
   refine wk_region ?_
   refine lx_value (want rfl) (as_pointer rfl) ?_
   refine lx_nil ?_
   refine wk_ret ?_
   refine retR1 Tryz.results153 (.tmp (t_pointer rfl)) F4 ?_
   exact cell_no (decide_eq_false fun g => h1 g.2.1)
  ·
   have h1e : ix.1 = 1 := Decidable.not_not.1 h1
   refine mx_calm rfl (want rfl) (fun u13 eu13 fu13 => pick_f rfl rfl) ?_
   refine mx_calm rfl (want rfl) (fun u14 eu14 fu14 => mv_bool rfl) ?_
   refine mx_calm rfl (want_if (j := 8) (d := 15) (x := false) (y := false) rfl rfl (by decide) rfl) (fun u15 eu15 fu15 => rn_fieldAddr fa_36_1 rfl) ?_
   refine mx_calm rfl (want_if (j := 8) (d := 15) (x := false) (y := false) rfl rfl (by decide) rfl) (fun u16 eu16 fu16 => rn_load1Blk ag_3 rfl (B22.ext ((ext_drawn _).trans' eu16)) rfl) ?_
   refine mx_calm rfl (want_if (j := 8) (d := 15) (x := false) (y := false) rfl rfl (by decide) rfl) (fun u17 eu17 fu17 => mv_pointer rfl) ?_
   refine mx_calm rfl (want_if (j := 8) (d := 15) (x := false) (y := false) rfl rfl (by decide) rfl) (fun u18 eu18 fu18 => rn_nilCheck rfl) ?_
   refine mx_calm rfl (want_if (j := 8) (d := 15) (x := false) (y := false) rfl rfl (by decide) rfl) (fun u19 eu19 fu19 => rn_fieldAddr fa_113_0 rfl) ?_
   refine mx_calm rfl (want_if (j := 8) (d := 15) (x := false) (y := false) rfl rfl (by decide) rfl) (fun u20 eu20 fu20 => rn_load1Blk ag_22 rfl (((hBm.ext Eb21).ext Eb22).ext ((ext_drawn _).trans' eu20)) rfl) ?_
   refine mx_calm rfl (want_if (j := 8) (d := 15) (x := false) (y := false) rfl rfl (by decide) rfl) (fun u21 eu21 fu21 => rn_fieldAddr fa_36_1 rfl) ?_
   refine mx_calm rfl (want_if (j := 8) (d := 15) (x := false) (y := false) rfl rfl (by decide) rfl) (fun u22 eu22 fu22 => rn_load1Blk ag_3 rfl ((B21.ext Eb22).ext ((ext_drawn _).trans' eu22)) rfl) ?_
   refine mx_calm rfl (want_if (j := 8) (d := 15) (x := false) (y := false) rfl rfl (by decide) rfl) (fun u23 eu23 fu23 => rn_index (num s2) Tryz.underlying22 sz_65 rfl rfl (by unfold num; omega) hltT) ?_
   refine mx_calm rfl (want_if (j := 8) (d := 15) (x := false) (y := false) rfl rfl (by decide) rfl) (fun u24 eu24 fu24 => rn_fieldAddr fa_65_0 rfl) ?_
   refine mx_calm rfl (want_if (j := 8) (d := 15) (x := false) (y := false) rfl rfl (by decide) rfl) (fun u25 eu25 fu25 => rn_load1 ag_30 rfl ((F2.ext ((ext_drawn _).trans' eu25)).cell (fun h => h) (show _ = some (Value.slice sA x.1.length cA) from hcA))) ?_
   refine mx_calm rfl (want_if (j := 8) (d := 15) (x := false) (y := false) rfl rfl (by decide) rfl) (fun u26 eu26 fu26 => rn_len Tryz.underlying30 rfl) ?_
   refine mx_calm rfl (want_if (j := 8) (d := 15) (x := false) (y := false) rfl rfl (by decide) rfl) (fun u27 eu27 fu27 => rn_sub rfl rfl (by omega)) ?_
   refine mx_nil (fun w3 E3' H3 HS => ?_)
   have E3 := (ext_drawn _).trans' E3'
   have F5 := F2.ext E3
   have hz3 := E3.size
   refine lx_call (want_if (j := 8) (d := 15) (x := false) (y := false) rfl rfl (by decide) rfl) (ent_func cf_94 (argsC (t_int rfl) (argsC (t_int rfl) (argsC (t_int rfl) args0)))) (within_ct _ _ _ w3) ?_
   rintro _ w4 E4 rfl
   have F6 := F5.ext E4
   have hz4 := E4.size
   refine lx_split (fun hin => ?_) (fun hin => ?_)
   ·
    have hin2 := of_decide_eq_true hin
    obtain ⟨bA, oA, hsA⟩ := own_some (hTm.ownA _ _ he) (show 0 < x.1.length by omega)
    subst hsA
    refine lx_value (want_if (j := 8) (d := 15) (x := false) (y := false) rfl rfl (by decide) rfl) (rn_not rfl) ?_
    refine lx_value (want rfl) (pick_f rfl rfl) ?_
    refine lx_nil ?_
    refine wk_cond_f rfl ?_
    refine wk_skip ?_
    refine wk_seq ?_
    refine wk_mix 11 (fun _ => .none) (by kernel_rfl) (by kernel_rfl) (fun kS G hk => by cases hk) (fun kS s y G hk => by cases hk) ?_
    simp only [List.take_succ_cons, List.take_zero, List.take_nil, List.drop_succ_cons, List.drop_zero, List.drop_nil]
    refine mx_calm rfl (want rfl) (fun u28 eu28 fu28 => mv_pointer rfl) ?_
    refine mx_calm rfl (want rfl) (fun u29 eu29 fu29 => rn_nilCheck rfl) ?_
    refine mx_calm rfl (want rfl) (fun u30 eu30 fu30 => rn_fieldAddr fa_113_0 rfl) ?_
    refine mx_calm rfl (want rfl) (fun u31 eu31 fu31 => rn_load1Blk ag_22 rfl (((((hBm.ext Eb21).ext Eb22).ext E3).ext E4).ext ((ext_drawn _).trans' eu31)) rfl) ?_
    refine mx_calm rfl (want rfl) (fun u32 eu32 fu32 => rn_fieldAddr fa_36_1 rfl) ?_
    refine mx_calm rfl (want rfl) (fun u33 eu33 fu33 => rn_load1Blk ag_3 rfl ((((B21.ext Eb22).ext E3).ext E4).ext ((ext_drawn _).trans' eu33)) rfl) ?_
    refine mx_calm rfl (want rfl) (fun u34 eu34 fu34 => rn_index (num s2) Tryz.underlying22 sz_65 rfl rfl (by unfold num; omega) hltT) ?_
    refine mx_calm rfl (want rfl) (fun u35 eu35 fu35 => rn_fieldAddr fa_65_0 rfl) ?_
    refine mx_calm rfl (want rfl) (fun u36 eu36 fu36 => rn_load1 ag_30 rfl ((F6.ext ((ext_drawn _).trans' eu36)).cell (fun h => h) (show _ = some (Value.slice (some ⟨bA, oA, none⟩) x.1.length cA) from hcA))) ?_
    refine mx_calm rfl (want rfl) (fun u37 eu37 fu37 => rn_fieldAddr fa_36_1 rfl) ?_
    refine mx_calm rfl (want rfl) (fun u38 eu38 fu38 => rn_load1Blk ag_3 rfl (((B22.ext E3).ext E4).ext ((ext_drawn _).trans' eu38)) rfl) ?_
    refine mx_nil (fun w5 E5' H4 HS => ?_)
    have E5 := (ext_drawn _).trans' E5'
    have F7 := F6.ext E5
    have hz5 := E5.size
    refine lx_value (want rfl) (rn_index (num ix) Tryz.underlying30 sz_36 rfl rfl (by unfold num; omega) (by unfold num; omega)) ?_
    refine lx_value (want rfl) (as_pointer rfl) ?_
    refine lx_nil ?_
    refine wk_ret ?_
    refine retR1 Tryz.results153 (.tmp (t_pointer rfl)) F7 ?_
    exact cell_yes hx he h4e h1e hin2
   ·
    refine lx_value (want_if (j := 8) (d := 15) (x := false) (y := false) rfl rfl (by decide) rfl) (rn_not rfl) ?_
    refine lx_value (want rfl) (pick_f rfl rfl) ?_
    refine lx_nil ?_
    refine wk_cond_t rfl ?_
    refine wk_seq ?_
    refine wk_region ?_
    refine lx_value (want rfl) (as_pointer rfl) ?_
    refine lx_nil ?_
    refine wk_ret ?_
    refine retR1 Tryz.results153 (.tmp (t_pointer rfl)) F6 ?_
    exact cell_no (by have := of_decide_eq_false hin; unfold fitB; rw [sat_of hx]; exact decide_eq_false fun g => this ⟨g.2.2.1, by omega⟩)

theorem copypic_ct (p : Pic) (sv : Option Addr) (cv : Nat) (sk : Option Addr) (ck : Nat) (G : Nat → Prop) (hB : Bp p) (w0 : World) (hv : VlS G w0 sv p.1) (hk : VvS G w0 sk p.2) :
  CT Tryz.prog 29 [.agg #[.slice sv p.1.length cv, .slice sk p.2.length ck]] w0 no (fun v w => PicR w0.heap.size w v p) := by
 have hB1 := hB.1
 have hB2 := hB.2.1
 have F0 := Fr.refl no w0
 refine ct_body Tryz.func29 rfl Tryz.ntmps29 (Nat.le_of_ble_eq_true rfl) ?_
 refine wk_seq ?_
 refine wk_region ?_
 refine lx_new (want rfl) (rn_box (t_agg rfl)) ?_
 intro b1 w1 hb1 Eb1 B1 hlb1
 have F1 := F0.ext Eb1
 have hzb1 := Eb1.size
 refine lx_new (want rfl) (rn_alloc ze_45) ?_
 intro b2 w2 hb2 Eb2 B2 hlb2
 have F2 := F1.ext Eb2
 have hzb2 := Eb2.size
 refine lx_nil ?_
 refine wk_seq ?_
 refine wk_region ?_
 refine lx_value (want rfl) (rn_fieldAddr fa_45_0 rfl) ?_
 refine lx_value (want rfl) (rn_load1Blk ag_30 rfl (B1.ext Eb2) rfl) ?_
 refine lx_call (want rfl) (ent_func cf_28 (argsC (t_slice rfl) args0)) (values_ct p.1 _ _ _ w2 (hv.fr (vl_stab _) F2 (fun _ _ h => h)) hB1) ?_
 rintro _ w3 E1 ⟨s2, c2, rfl, hO2, hg2⟩
 have F3 := F2.ext E1
 have hz1 := E1.size
 have ge1 : ∀ k, ob s2 k → w0.heap.size ≤ k := fun k hk => (by have := hg2 k hk; omega)
 have ne1_1 : ∀ k, ob s2 k → k ≠ b1 := fun k hk => by have := hg2 k hk; have := (B1).lt; omega
 have ne1_2 : ∀ k, ob s2 k → k ≠ b2 := fun k hk => by have := hg2 k hk; have := (B2).lt; omega
 refine lx_value (want rfl) (rn_build1 (t_slice rfl) (fun w => bd_45_0 _ _ _ w)) ?_
 refine lx_new (want rfl) (rn_alloc ze_45) ?_
 intro b3 w4 hb3 Eb3 B3 hlb3
 have F4 := F3.ext Eb3
 have hzb3 := Eb3.size
 have nb1 : ∀ k, ob s2 k → k ≠ b3 := fun k hk => by have := (hO2).lt hk; omega
 refine lx_set (want rfl) sz_45 rfl (t_agg rfl) rfl rfl rfl B3 (Nat.le_of_ble_eq_true rfl) ?_
 intro w5 Es1 Bs1
 have F5 := F4.set Es1 (by omega)
 have hzs1 := Es1.size
 refine lx_nil ?_
 refine wk_seq ?_
 refine wk_seq ?_
 refine wk_region ?_
 refine lx_value (want rfl) (as_int rfl) ?_
 refine lx_nil ?_
 refine wk_block ?_
 refine wk_loopA [4, 9, 10, 11, 12, 13, 14, 15, 16, 17, 18, 19, 20, 21, 22, 23, 24, 25, 26] (fun j => no j ∨ w0.heap.size ≤ j) (fun nM ρ w => ∃ (i : Nat) (so1_2 : Option Addr) (co1_2 : Nat) (st1_1 : Option Addr) (ct1_1 : Nat) (TT1_1 : List (TE Vl)), nM = p.2.length - i ∧ ρ 4 = .int .i64 i ∧ Blk w b1 (cellsOf B1) 45 ∧ Blk w b2 (cellsOf B2) 45 ∧ Blk w b3 [.slice so1_2 p.1.length co1_2, .slice st1_1 TT1_1.length ct1_1] 45 ∧ OwnS w 36 2 so1_2 (p.1.length) co1_2 (p.1.flatMap vlC) ∧ (∀ k, ob so1_2 k → w0.heap.size ≤ k) ∧ (∀ k, ob so1_2 k → k ≠ b1) ∧ (∀ k, ob so1_2 k → k ≠ b2) ∧ (∀ k, ob so1_2 k → k ≠ b3) ∧ Tab w 30 36 2 vlC st1_1 ct1_1 TT1_1 ∧ (∀ k, tb st1_1 TT1_1 k → w0.heap.size ≤ k) ∧ (∀ k, tb st1_1 TT1_1 k → k ≠ b1) ∧ (∀ k, tb st1_1 TT1_1 k → k ≠ b2) ∧ (∀ k, tb st1_1 TT1_1 k → k ≠ b3) ∧ (∀ k, tb st1_1 TT1_1 k → ob so1_2 k → False) ∧ (i ≤ p.2.length) ∧ (TT1_1.map (·.2.2) = p.2.take i)) _ ⟨0, s2, c2, none, 0, ([] : List (TE Vl)), rfl, rfl, ((((B1.ext Eb2).ext E1).ext Eb3).ne Es1 (by omega)), (((B2.ext E1).ext Eb3).ne Es1 (by omega)), Bs1, ((hO2.ext Eb3).ne Es1 (fun h => nb1 _ h rfl)), ge1, ne1_1, ne1_2, nb1, (Tab.nil w5 30 36 2 vlC), (fun _ h => tb_nil h), (fun _ h => tb_nil h), (fun _ h => tb_nil h), (fun _ h => tb_nil h), (fun _ h _ => tb_nil h), by omega, rfl⟩ ?_
 rintro n1 ρ1 w6 A1 EL1 ⟨i, so1_2, co1_2, st1_1, ct1_1, TT1_1, rfl, hs1_4, BL1_1, BL1_2, BL1_3, ow1L_2, ge1L_2, ne1L_2_1, ne1L_2_2, ne1L_2_3, tw1L_1, tg1L_1, tn1L_1_1, tn1L_1_2, tn1L_1_3, ts1L_1_2, hi, hT⟩
 have F6 := F5.wide EL1
 have hzL1 := EL1.size
 refine wk_seq ?_
 refine wk_seq ?_
 refine wk_region ?_
 refine lx_value (want rfl) (mv_int hs1_4) ?_
 refine lx_value (want rfl) (rn_fieldAddr fa_45_1 (A1.at 1 rfl rfl)) ?_
 refine lx_value (want rfl) (rn_load1Blk ag_43 rfl BL1_1 rfl) ?_
 refine lx_value (want rfl) (rn_len Tryz.underlying43 rfl) ?_
 refine lx_value (want rfl) (rn_lss rfl rfl) ?_
 refine lx_dec (fun hlt => ?_) (fun hlt => ?_)
 ·
  obtain ⟨l, hl⟩ := getx hlt
  obtain ⟨bx, ox, rfl, _, sx, cx, hcx, hpx⟩ := hk i l hl
  refine lx_nil ?_
  refine wk_cond_t rfl ?_
  refine wk_skip ?_
  refine wk_seq ?_
  refine wk_block ?_
  have hTo := tw1L_1
  have hSl : ∀ k, (ob st1_1) k → k < w6.heap.size := fun k h => (tw1L_1).lt (.inl h)
  refine wk_mixA 11 9 (ob st1_1) (fun kS => match kS with | 7 => .any (fun I v w => ∃ s c, v = .slice s l.length c ∧ OwnS w 36 2 s l.length c (l.flatMap vlC) ∧ ∀ k, ob s k → w6.heap.size ≤ k) | 8 => .any (fun I v w => ∃ b s c, v = .slice (some ⟨b, 0, none⟩) 1 1 ∧ w6.heap.size ≤ b ∧ Blk w b [.slice s l.length c] 30 ∧ OwnS w 36 2 s l.length c (l.flatMap vlC) ∧ ∀ k, ob s k → w6.heap.size ≤ k) | 9 => .any (fun I v w => ∃ (e : TE Vl) (s : Option Addr) (c : Nat), v = .slice s (TT1_1 ++ [e]).length c ∧ e.2.2 = l ∧ Tab w 30 36 2 vlC s c (TT1_1 ++ [e]) ∧ ∀ k, tb s (TT1_1 ++ [e]) k → (tb st1_1 TT1_1 k ∨ w6.heap.size ≤ k)) | _ => .none) (by kernel_rfl) (by kernel_rfl) (by intro kS G hk; (try dsimp only at hk); (split at hk) <;> first | (cases hk; done) | (injection hk with hk; subst hk; exact ⟨by intro j hkj I v w w' hR hG; first | exact hG | (obtain ⟨s, c, h1, h2, h3⟩ := hG; exact ⟨s, c, h1, h2.fr (mS hR) (fun k hk hs => by have := h3 k hk; have := hTo.out.lt hs; omega), h3⟩) | (obtain ⟨b, s, c, h1, h2, h3, h4, h5⟩ := hG; exact ⟨b, s, c, h1, h2, h3.fr (mS hR) (fun hs => by have := hTo.out.lt hs; omega), h4.fr (mS hR) (fun k hk hs => by have := h5 k hk; have := hTo.out.lt hs; omega), h5⟩) | (obtain ⟨e, s, c, h1, h2, h3, h4⟩ := hG; exact ⟨e, s, c, h1, h2, h3.ext (mT hkj hR), h4⟩), fun ⟨_, _, _, _, hs⟩ => by (try dsimp only at hs); split at hs <;> cases hs⟩)) (by intro kS s y G hk; (try dsimp only at hk); split at hk <;> cases hk) ?_
  simp only [List.take_succ_cons, List.take_zero, List.take_nil, List.drop_succ_cons, List.drop_zero, List.drop_nil]
  refine mx_calm rfl (want rfl) (fun u1 eu1 fu1 => rn_fieldAddr fa_45_1 (A1.at 3 rfl rfl)) ?_
  refine mx_calm rfl (want rfl) (fun u2 eu2 fu2 => rn_load1Blk ag_43 rfl (BL1_3.fr (mD (by decide) eu2) (fun h => tn1L_1_3 _ (.inl h) rfl)) rfl) ?_
  refine mx_calm rfl (want rfl) (fun u3 eu3 fu3 => rn_fieldAddr fa_45_1 (A1.at 1 rfl rfl)) ?_
  refine mx_calm rfl (want rfl) (fun u4 eu4 fu4 => rn_load1Blk ag_43 rfl (BL1_1.fr (mD (by decide) eu4) (fun h => tn1L_1_1 _ (.inl h) rfl)) rfl) ?_
  refine mx_calm rfl (want rfl) (fun u5 eu5 fu5 => mv_int hs1_4) ?_
  refine mx_calm rfl (want rfl) (fun u6 eu6 fu6 => rn_index _ Tryz.underlying43 sz_30 rfl rfl rfl (by omega)) ?_
  refine mx_calm rfl (want rfl) (fun u7 eu7 fu7 => rn_load1 ag_30 rfl ((F6.new (mD (by decide) eu7) (fun k h => tg1L_1 k (.inl h))).cell (fun h => h) hcx)) ?_
  refine mx_any rfl rfl (want rfl) (fun u8 eu8 fu8 => do_call (ent_func cf_28 (argsC (t_slice rfl) args0)) (values_ct l _ _ _ u8 (hpx.fr (vl_stab _) (F6.new (mD (by decide) eu8) (fun k h => tg1L_1 k (.inl h))) (fun _ _ h => h)) (hB.get hl)) (fun v w' E h => ⟨(mE (by decide) E), by obtain ⟨s, c, h1, h2, h3⟩ := h; exact ⟨s, c, h1, h2, fun k hk => Nat.le_trans (mD (by decide) eu8).size (h3 k hk)⟩⟩)) (fun I23 v23 => ?_)
  refine mx_any rfl rfl (want rfl) (fun u9 eu9 fu9 => by obtain ⟨s, c, rfl, h24, hg24⟩ := fu9 23 _ rfl (show (23 : Nat) ∈ _ from by decide); exact (do_newS2 (rn_bslice (xs := [.tmp 23]) Tryz.underlying43 sz_30 ze_30 rfl (argsC (t_slice rfl) args0) (CL.cons rfl rfl CL.nil) rfl (Nat.le_of_ble_eq_true rfl)) (show _ ≤ _ from ((mD (by decide) eu9)).size)).mono (fun v w' h => ⟨(mE (by decide) h.1), by obtain ⟨h1, b, h2, h3, _, h4⟩ := h; exact ⟨b, s, c, h2, h3, h4, h24.ext h1, hg24⟩⟩)) (fun I24 v24 => ?_)
  refine mx_any rfl rfl (want rfl) (fun u10 eu10 fu10 => by obtain ⟨b25, s, c, rfl, hb25, hB25, h24, hg24⟩ := fu10 24 _ rfl (show (24 : Nat) ∈ _ from by decide); exact do_append 24 Tryz.underlying43 ti_30 (by decide) rfl (by decide) rfl rfl (tw1L_1.ext (mC eu10)).out (Src.blk hB25 rfl rfl) (by rw [show TT1_1.length = i by have := congrArg List.length hT; simp at this; omega]; omega) (fun sA cA wA AP => ⟨(mF AP.fr), by obtain ⟨h1, h2⟩ := Tab.snoc (e := (s, c, l)) (tw1L_1.ext (mC eu10)) h24 (fun k hk hb => by have := hg24 k hk; have := hTo.lt hb; omega) AP; exact ⟨(s, c, l), sA, cA, by simp, rfl, h1, fun k hk => (h2 k hk).elim .inl (fun h => .inr (h.elim (hg24 k) (fun h => Nat.le_trans (mC eu10).size h)))⟩⟩)) (fun I25 v25 => ?_)
  refine mx_calm rfl (want rfl) (fun u11 eu11 fu11 => rn_fieldAddr fa_45_1 (A1.at 3 rfl rfl)) ?_
  refine mx_nil (fun w7 E2' H1 HS => ?_)
  have E2 := mG E2'
  have F7 := F6.new E2 (fun k h => tg1L_1 k (.inl h))
  have hz2 := E2.size
  have hI25 := (HS.1 25 _ rfl).2
  have hI24 := (HS.1 24 _ rfl).2
  have hI23 := (HS.1 23 _ rfl).2
  have hX25_24 := HS.2 25 _ 24 _ rfl rfl (show (25 : Nat) ≠ 24 from by decide)
  have hX25_23 := HS.2 25 _ 23 _ rfl rfl (show (25 : Nat) ≠ 23 from by decide)
  have hX24_23 := HS.2 24 _ 23 _ rfl rfl (show (24 : Nat) ≠ 23 from by decide)
  simp only at hI25
  simp only at hI24
  simp only at hI23
  simp only at hX25_24
  simp only at hX25_23
  simp only at hX24_23
  have g25 := H1 25 _ rfl
  obtain ⟨e, sN, cN, rfl, he, hTN, hIN⟩ := g25
  have tg2 : ∀ k, tb sN (TT1_1 ++ [e]) k → w0.heap.size ≤ k := fun k hk => (hIN k hk).elim (tg1L_1 k) (fun h => by omega)
  have tn2_1 : ∀ k, tb sN (TT1_1 ++ [e]) k → k ≠ b1 := fun k hk => (hIN k hk).elim (tn1L_1_1 k) (fun h => by have := (BL1_1).lt; omega)
  have tn2_2 : ∀ k, tb sN (TT1_1 ++ [e]) k → k ≠ b2 := fun k hk => (hIN k hk).elim (tn1L_1_2 k) (fun h => by have := (BL1_2).lt; omega)
  have tn2_3 : ∀ k, tb sN (TT1_1 ++ [e]) k → k ≠ b3 := fun k hk => (hIN k hk).elim (tn1L_1_3 k) (fun h => by have := (BL1_3).lt; omega)
  have ts2_2 : ∀ k, tb sN (TT1_1 ++ [e]) k → ob so1_2 k → False := fun k hk h2 => (hIN k hk).elim (fun h => ts1L_1_2 k h h2) (fun h => by have := (ow1L_2).lt h2; omega)
  have g24 := H1 24 _ rfl
  have g23 := H1 23 _ rfl
  refine lx_set (want rfl) sz_43 rfl (t_slice rfl) rfl rfl rfl (BL1_3.fr E2 (fun h => tn1L_1_3 _ (.inl h) rfl)) (Nat.le_of_ble_eq_true rfl) ?_
  intro w8 Es2 Bs2
  have F8 := F7.set Es2 (by omega)
  have hzs2 := Es2.size
  refine lx_nil ?_
  refine wk_region ?_
  refine lx_value (want rfl) (mv_int hs1_4) ?_
  refine lx_value (want rfl) (rn_add rfl rfl (by omega)) ?_
  refine lx_value (want rfl) (as_int rfl) ?_
  refine lx_nil ?_
  exact ⟨rfl, ((((((((((((((((((((A1.up rfl _).up rfl _).up rfl _).up rfl _).up rfl _).up rfl _).up rfl _).up rfl _).up rfl _).up rfl _).up rfl _).up rfl _).up rfl _).up rfl _).up rfl _).up rfl _).none _).up rfl _).up rfl _).up rfl _), Fr.between F5 F8 (by omega), _, (by omega), i + 1, so1_2, co1_2, sN, cN, (TT1_1 ++ [e]), rfl, rfl, ((BL1_1.fr E2 (fun h => tn1L_1_1 _ (.inl h) rfl)).ne Es2 (by omega)), ((BL1_2.fr E2 (fun h => tn1L_1_2 _ (.inl h) rfl)).ne Es2 (by omega)), Bs2, ((ow1L_2.fr E2 (fun k h1 h => ts1L_1_2 k (.inl h) h1)).ne Es2 (fun h => ne1L_2_3 _ h rfl)), ge1L_2, ne1L_2_1, ne1L_2_2, ne1L_2_3, (hTN.fr Es2 (fun k hk h => tn2_3 k hk h)), tg2, tn2_1, tn2_2, tn2_3, ts2_2, by have := (List.getElem?_eq_some_iff.1 hl).1; omega, (tab_step hT hl he)⟩
 ·
  refine lx_nil ?_
  refine wk_cond_f rfl ?_
  refine wk_exit ?_
  refine wk_seq ?_
  refine wk_region ?_
  refine lx_value (want rfl) (rn_loadBlk ag_45 sz_45 (A1.at 3 rfl rfl) BL1_3 rfl rfl) ?_
  refine lx_set (want rfl) sz_45 (A1.at 2 rfl rfl) (t_agg rfl) rfl rfl rfl BL1_2 (Nat.le_of_ble_eq_true rfl) ?_
  intro w7 Es3 Bs3
  have F9 := F6.set Es3 (by omega)
  have hzs3 := Es3.size
  refine lx_nil ?_
  refine wk_ret ?_
  refine retR1 Tryz.results29 (.cell (A1.at 2 rfl rfl) (run_loadVar_blk ag_45 sz_45 Bs3 rfl rfl)) F9 ?_
  exact picR_of (ow1L_2.ne Es3 (fun h => ne1L_2_2 _ h rfl)) ge1L_2 (tw1L_1.fr Es3 (fun k hk h => tn1L_1_2 k hk h)) hT (by omega) tg1L_1

theorem pofcells_ct (L : List (List Vl)) (sk : Option Addr) (ck : Nat) (G : Nat → Prop) (hL : L.length ≤ 1048576) (hBL : ∀ l ∈ L, l.length ≤ 1048576) (w0 : World) (hk : VvS G w0 sk L) :
  CT Tryz.prog 79 [.slice sk L.length ck] w0 no (fun v w => MemT w0.heap.size w v (memC L)) := by
 have F0 := Fr.refl no w0
 refine ct_body Tryz.func79 rfl Tryz.ntmps79 (Nat.le_of_ble_eq_true rfl) ?_
 refine wk_seq ?_
 refine wk_region ?_
 refine lx_new (want rfl) (rn_alloc ze_24) ?_
 intro b1 w1 hb1 Eb1 B1 hlb1
 have F1 := F0.ext Eb1
 have hzb1 := Eb1.size
 refine lx_nil ?_
 refine wk_seq ?_
 refine wk_seq ?_
 refine wk_region ?_
 refine lx_value (want rfl) (mv_slice rfl) ?_
 refine lx_value (want rfl) (rn_len Tryz.underlying43 rfl) ?_
 refine lx_value (want rfl) (mv_int rfl) ?_
 refine lx_nil ?_
 refine wk_block ?_
 refine wk_loopA [4, 7, 8, 9, 10, 11, 12, 13, 14, 15, 16, 17, 18, 19] (fun j => no j ∨ w0.heap.size ≤ j) (fun nM ρ w => ∃ (i : Nat) (st1_1 : Option Addr) (ct1_1 : Nat) (TT1_1 : List (SE Vl Rd)), nM = L.length - i ∧ ρ 7 = .int .i64 i ∧ Blk w b1 [.slice st1_1 TT1_1.length ct1_1] 24 ∧ MTab w 65 36 2 vlC 115 2 rdC st1_1 ct1_1 TT1_1 ∧ (∀ k, mtb st1_1 TT1_1 k → w0.heap.size ≤ k) ∧ (∀ k, mtb st1_1 TT1_1 k → k ≠ b1) ∧ (i ≤ L.length) ∧ (TT1_1.map SE.abs = memC (L.take i))) _ ⟨0, none, 0, ([] : List (SE Vl Rd)), rfl, rfl, B1, (MTab.nil w1 65 36 2 vlC 115 2 rdC), (fun _ h => mtb_nil h), (fun _ h => mtb_nil h), by omega, rfl⟩ ?_
 rintro n1 ρ1 w2 A1 EL1 ⟨i, st1_1, ct1_1, TT1_1, rfl, hs1_7, BL1_1, tw1L_1, tg1L_1, tn1L_1_1, hi, hT⟩
 have F2 := F1.wide EL1
 have hzL1 := EL1.size
 refine wk_seq ?_
 refine wk_region ?_
 refine lx_value (want rfl) (rn_lss hs1_7 (A1.at 6 rfl rfl)) ?_
 refine lx_dec (fun hlt => ?_) (fun hlt => ?_)
 ·
  obtain ⟨l, hl⟩ := getx hlt
  obtain ⟨bx, ox, rfl, _, sx, cx, hcx, hpx⟩ := hk i l hl
  refine lx_nil ?_
  refine wk_seq ?_
  refine wk_cond_t rfl ?_
  refine wk_skip ?_
  refine wk_seq ?_
  refine wk_block ?_
  refine wk_seq ?_
  refine wk_region ?_
  refine lx_value (want rfl) (rn_index _ Tryz.underlying43 sz_30 (A1.at 5 rfl rfl) hs1_7 rfl (by omega)) ?_
  refine lx_value (want rfl) (rn_load1 ag_30 rfl (F2.cell (fun h => h) hcx)) ?_
  refine lx_value (want rfl) (as_slice rfl) ?_
  refine lx_nil ?_
  have hTo := tw1L_1
  have hSl : ∀ k, (ob st1_1) k → k < w2.heap.size := fun k h => (tw1L_1).lt (.inl h)
  refine wk_mixA 7 6 (ob st1_1) (fun kS => match kS with | 3 => .any (fun I v w => ∃ s c, v = .slice s l.length c ∧ OwnS w 36 2 s l.length c (l.flatMap vlC) ∧ ∀ k, ob s k → w2.heap.size ≤ k) | 4 => .any (fun I v w => ∃ s c, v = .agg #[.slice s l.length c, .slice none 0 0] ∧ OwnS w 36 2 s l.length c (l.flatMap vlC) ∧ ∀ k, ob s k → w2.heap.size ≤ k) | 5 => .any (fun I v w => ∃ b s c, v = .slice (some ⟨b, 0, none⟩) 1 1 ∧ w2.heap.size ≤ b ∧ Blk w b [.slice s l.length c, .slice none 0 0] 65 ∧ OwnS w 36 2 s l.length c (l.flatMap vlC) ∧ ∀ k, ob s k → w2.heap.size ≤ k) | 6 => .any (fun I v w => ∃ (e : SE Vl Rd) (s : Option Addr) (c : Nat), v = .slice s (TT1_1 ++ [e]).length c ∧ e.abs = (l, []) ∧ MTab w 65 36 2 vlC 115 2 rdC s c (TT1_1 ++ [e]) ∧ ∀ k, mtb s (TT1_1 ++ [e]) k → (mtb st1_1 TT1_1 k ∨ w2.heap.size ≤ k)) | _ => .none) (by kernel_rfl) (by kernel_rfl) (by intro kS G hk; (try dsimp only at hk); (split at hk) <;> first | (cases hk; done) | (injection hk with hk; subst hk; exact ⟨by intro j hkj I v w w' hR hG; first | exact hG | (obtain ⟨s, c, h1, h2, h3⟩ := hG; exact ⟨s, c, h1, h2.fr (mS hR) (fun k hk hs => by have := h3 k hk; have := hTo.out.lt hs; omega), h3⟩) | (obtain ⟨s, c, h1, h4, h5⟩ := hG; exact ⟨s, c, h1, h4.fr (mS hR) (fun k hk hs => by have := h5 k hk; have := hTo.out.lt hs; omega), h5⟩) | (obtain ⟨b, s, c, h1, h2, h3, h4, h5⟩ := hG; exact ⟨b, s, c, h1, h2, h3.fr (mS hR) (fun hs => by have := hTo.out.lt hs; omega), h4.fr (mS hR) (fun k hk hs => by have := h5 k hk; have := hTo.out.lt hs; omega), h5⟩) | (obtain ⟨e, s, c, h1, h2, h3, h4⟩ := hG; exact ⟨e, s, c, h1, h2, h3.ext (mT hkj hR), h4⟩), fun ⟨_, _, _, _, hs⟩ => by (try dsimp only at hs); split at hs <;> cases hs⟩)) (by intro kS s y G hk; (try dsimp only at hk); split at hk <;> cases hk) ?_
  simp only [List.take_succ_cons, List.take_zero, List.take_nil, List.drop_succ_cons, List.drop_zero, List.drop_nil]
  refine mx_calm rfl (want rfl) (fun u1 eu1 fu1 => rn_fieldAddr fa_24_0 (A1.at 2 rfl rfl)) ?_
  refine mx_calm rfl (want rfl) (fun u2 eu2 fu2 => rn_load1Blk ag_22 rfl (BL1_1.fr (mD (by decide) eu2) (fun h => tn1L_1_1 _ (.inl h) rfl)) rfl) ?_
  refine mx_calm rfl (want rfl) (fun u3 eu3 fu3 => mv_slice rfl) ?_
  refine mx_any rfl rfl (want rfl) (fun u4 eu4 fu4 => do_call (ent_func cf_111 (argsC (t_slice rfl) args0)) (clonev_ct l _ _ _ u4 (hpx.fr (vl_stab _) (F2.new (mD (by decide) eu4) (fun k h => tg1L_1 k (.inl h))) (fun _ _ h => h)) (hBL l (List.mem_of_getElem? hl))) (fun v w' E h => ⟨(mE (by decide) E), by obtain ⟨s, c, h1, h2, h3⟩ := h; exact ⟨s, c, h1, h2, fun k hk => Nat.le_trans (mD (by decide) eu4).size (h3 k hk)⟩⟩)) (fun I14 v14 => ?_)
  refine mx_any rfl rfl (want rfl) (fun u5 eu5 fu5 => by obtain ⟨s, c, rfl, h23, hg23⟩ := fu5 14 _ rfl (show (14 : Nat) ∈ _ from by decide); exact do_value (rn_build1 (t_slice rfl) (fun w => bd_65_0 _ _ _ w)) ⟨(mE (by decide) (Fr.refl no _)), ⟨s, c, rfl, h23, hg23⟩⟩) (fun I15 v15 => ?_)
  refine mx_any rfl rfl (want rfl) (fun u6 eu6 fu6 => by obtain ⟨s, c, rfl, h23, hg23⟩ := fu6 15 _ rfl (show (15 : Nat) ∈ _ from by decide); exact (do_newS2 (rn_bslice (xs := [.tmp 15]) Tryz.underlying22 sz_65 ze_65 rfl (argsC (t_agg rfl) args0) (CL.cons rfl rfl CL.nil) rfl (Nat.le_of_ble_eq_true rfl)) (show _ ≤ _ from ((mD (by decide) eu6)).size)).mono (fun v w' h => ⟨(mE (by decide) h.1), by obtain ⟨h1, b, h2, h3, _, h4⟩ := h; exact ⟨b, s, c, h2, h3, h4, h23.ext h1, hg23⟩⟩)) (fun I16 v16 => ?_)
  refine mx_any rfl rfl (want rfl) (fun u7 eu7 fu7 => by obtain ⟨b29, s1, c1, rfl, hb29, hB29, h1, hg1⟩ := fu7 16 _ rfl (show (16 : Nat) ∈ _ from by decide); exact do_append 48 Tryz.underlying22 ti_65 (by decide) rfl (by decide) rfl rfl (tw1L_1.ext (mC eu7)).out (Src.blk hB29 rfl rfl) (by rw [show TT1_1.length = i by have := congrArg List.length hT; simp [memC] at this; omega]; omega) (fun sA cA wA AP => ⟨(mF AP.fr), by obtain ⟨g1, g2⟩ := MTab.snoc (e := ((s1, c1, l), (none, 0, []))) (tw1L_1.ext (mC eu7)) h1 (OwnS.nil _ _ _) (fun k _ h => ob_none h) (fun k hk hb => by have := hTo.lt hb; rcases hk with hk | hk; have := hg1 k hk; omega; exact ob_none hk) AP; exact ⟨_, sA, cA, by simp, rfl, g1, fun k hk => (g2 k hk).elim .inl (fun h => .inr (h.elim (fun h => h.elim (hg1 k) (fun h => ob_none h)) (fun h => Nat.le_trans (mC eu7).size h)))⟩⟩)) (fun I17 v17 => ?_)
  refine mx_nil (fun w3 E1' H1 HS => ?_)
  have E1 := mG E1'
  have F3 := F2.new E1 (fun k h => tg1L_1 k (.inl h))
  have hz1 := E1.size
  have hI17 := (HS.1 17 _ rfl).2
  have hI16 := (HS.1 16 _ rfl).2
  have hI15 := (HS.1 15 _ rfl).2
  have hI14 := (HS.1 14 _ rfl).2
  have hX17_16 := HS.2 17 _ 16 _ rfl rfl (show (17 : Nat) ≠ 16 from by decide)
  have hX17_15 := HS.2 17 _ 15 _ rfl rfl (show (17 : Nat) ≠ 15 from by decide)
  have hX17_14 := HS.2 17 _ 14 _ rfl rfl (show (17 : Nat) ≠ 14 from by decide)
  have hX16_15 := HS.2 16 _ 15 _ rfl rfl (show (16 : Nat) ≠ 15 from by decide)
  have hX16_14 := HS.2 16 _ 14 _ rfl rfl (show (16 : Nat) ≠ 14 from by decide)
  have hX15_14 := HS.2 15 _ 14 _ rfl rfl (show (15 : Nat) ≠ 14 from by decide)
  simp only at hI17
  simp only at hI16
  simp only at hI15
  simp only at hI14
  simp only at hX17_16
  simp only at hX17_15
  simp only at hX17_14
  simp only at hX16_15
  simp only at hX16_14
  simp only at hX15_14
  have g17 := H1 17 _ rfl
  obtain ⟨e, sN, cN, rfl, he, hTN, hIN⟩ := g17
  have tg2 : ∀ k, mtb sN (TT1_1 ++ [e]) k → w0.heap.size ≤ k := fun k hk => (hIN k hk).elim (tg1L_1 k) (fun h => by omega)
  have tn2_1 : ∀ k, mtb sN (TT1_1 ++ [e]) k → k ≠ b1 := fun k hk => (hIN k hk).elim (tn1L_1_1 k) (fun h => by have := (BL1_1).lt; omega)
  have g16 := H1 16 _ rfl
  have g15 := H1 15 _ rfl
  have g14 := H1 14 _ rfl
  refine lx_value (want rfl) (rn_fieldAddr fa_24_0 (A1.at 2 rfl rfl)) ?_
  refine lx_set (want rfl) sz_22 rfl (t_slice rfl) rfl rfl rfl (BL1_1.fr E1 (fun h => tn1L_1_1 _ (.inl h) rfl)) (Nat.le_of_ble_eq_true rfl) ?_
  intro w4 Es1 Bs1
  have F4 := F3.set Es1 (by omega)
  have hzs1 := Es1.size
  refine lx_nil ?_
  refine wk_region ?_
  refine lx_value (want rfl) (rn_add hs1_7 rfl (by omega)) ?_
  refine lx_value (want rfl) (mv_int rfl) ?_
  refine lx_nil ?_
  exact ⟨rfl, (((((((((((((((A1.up rfl _).up rfl _).up rfl _).up rfl _).up rfl _).up rfl _).up rfl _).up rfl _).up rfl _).up rfl _).up rfl _).up rfl _).none _).up rfl _).up rfl _), Fr.between F1 F4 (by omega), _, (by omega), i + 1, sN, cN, (TT1_1 ++ [e]), rfl, rfl, Bs1, (hTN.fr Es1 (fun k hk h => tn2_1 k hk h)), tg2, tn2_1, by have := (List.getElem?_eq_some_iff.1 hl).1; omega, (memC_step hT hl he)⟩
 ·
  refine lx_nil ?_
  refine wk_seq ?_
  refine wk_cond_f rfl ?_
  refine wk_exit ?_
  refine wk_seq ?_
  refine wk_region ?_
  refine lx_value (want rfl) (rn_loadBlk ag_24 sz_24 (A1.at 2 rfl rfl) BL1_1 rfl rfl) ?_
  refine lx_set (want rfl) sz_24 (A1.at 2 rfl rfl) (t_agg rfl) rfl rfl rfl BL1_1 (Nat.le_of_ble_eq_true rfl) ?_
  intro w3 Es2 Bs2
  have F5 := F2.set Es2 (by omega)
  have hzs2 := Es2.size
  refine lx_nil ?_
  refine wk_ret ?_
  refine retR1 Tryz.results79 (.cell (A1.at 2 rfl rfl) (run_loadVar_blk ag_24 sz_24 Bs2 rfl rfl)) F5 ?_
  exact memC_of (tw1L_1.fr Es2 (fun k hk h => tn1L_1_1 k hk h)) hT (by omega) tg1L_1

theorem samepic_ct (p : Pic) (sv : Option Addr) (cv : Nat) (sk : Option Addr) (ck : Nat) (G : Nat → Prop) (q : Pic) (sv2 : Option Addr) (cv2 : Nat) (sk2 : Option Addr) (ck2 : Nat) (G2 : Nat → Prop) (hB : Bp q) (w0 : World) (hv : VlS G w0 sv p.1) (hk : VvS G w0 sk p.2) (hv2 : VlS G2 w0 sv2 q.1) (hk2 : VvS G2 w0 sk2 q.2) :
  CT Tryz.prog 32 [.agg #[.slice sv p.1.length cv, .slice sk p.2.length ck], .agg #[.slice sv2 q.1.length cv2, .slice sk2 q.2.length ck2]] w0 no (fun v _ => v = .bool (decide (p = q))) := by
 have hB1 := hB.1
 have hB2 := hB.2.1
 have F0 := Fr.refl no w0
 refine ct_body Tryz.func32 rfl Tryz.ntmps32 (Nat.le_of_ble_eq_true rfl) ?_
 refine wk_seq ?_
 refine wk_region ?_
 refine lx_new (want rfl) (rn_box (t_agg rfl)) ?_
 intro b1 w1 hb1 Eb1 B1 hlb1
 have F1 := F0.ext Eb1
 have hzb1 := Eb1.size
 refine lx_new (want rfl) (rn_box (t_agg rfl)) ?_
 intro b2 w2 hb2 Eb2 B2 hlb2
 have F2 := F1.ext Eb2
 have hzb2 := Eb2.size
 refine lx_value (want rfl) (as_bool rfl) ?_
 refine lx_nil ?_
 refine wk_seq ?_
 refine wk_seq ?_
 refine wk_region ?_
 refine lx_value (want rfl) (rn_fieldAddr fa_45_0 rfl) ?_
 refine lx_value (want rfl) (rn_load1Blk ag_30 rfl (B1.ext Eb2) rfl) ?_
 refine lx_value (want rfl) (rn_fieldAddr fa_45_0 rfl) ?_
 refine lx_value (want rfl) (rn_load1Blk ag_30 rfl B2 rfl) ?_
 refine lx_call (want rfl) (ent_func cf_25 (argsC (t_slice rfl) (argsC (t_slice rfl) args0))) (samevalues_ct p.1 q.1 _ _ _ _ _ _ w2 (hv.fr (vl_stab _) F2 (fun _ _ h => h)) (hv2.fr (vl_stab _) F2 (fun _ _ h => h)) hB1) ?_
 rintro _ w3 E1 rfl
 have F3 := F2.ext E1
 have hz1 := E1.size
 refine lx_split (fun h1 => ?_) (fun h1 => ?_)
 ·
  refine lx_value (want rfl) (rn_not rfl) ?_
  refine lx_value (want rfl) (mv_bool rfl) ?_
  refine lx_value (want_if (j := 6) (d := 12) (x := false) (y := false) rfl rfl (by decide) rfl) (rn_fieldAddr fa_45_1 rfl) ?_
  refine lx_value (want_if (j := 6) (d := 12) (x := false) (y := false) rfl rfl (by decide) rfl) (rn_load1Blk ag_43 rfl ((B1.ext Eb2).ext E1) rfl) ?_
  refine lx_value (want_if (j := 6) (d := 12) (x := false) (y := false) rfl rfl (by decide) rfl) (rn_len Tryz.underlying43 rfl) ?_
  refine lx_value (want_if (j := 6) (d := 12) (x := false) (y := false) rfl rfl (by decide) rfl) (rn_fieldAddr fa_45_1 rfl) ?_
  refine lx_value (want_if (j := 6) (d := 12) (x := false) (y := false) rfl rfl (by decide) rfl) (rn_load1Blk ag_43 rfl (B2.ext E1) rfl) ?_
  refine lx_value (want_if (j := 6) (d := 12) (x := false) (y := false) rfl rfl (by decide) rfl) (rn_len Tryz.underlying43 rfl) ?_
  refine lx_value (want_if (j := 6) (d := 12) (x := false) (y := false) rfl rfl (by decide) rfl) (rn_neq rfl rfl) ?_
  refine lx_dec (fun h2 => ?_) (fun h2 => ?_)
  ·
   refine lx_value (want rfl) (pick_f rfl rfl) ?_
   refine lx_nil ?_
   refine wk_cond_t rfl ?_
   refine wk_seq ?_
   refine wk_region ?_
   refine lx_value (want rfl) (as_bool rfl) ?_
   refine lx_nil ?_
   refine wk_ret ?_
   refine retR1 Tryz.results32 (.tmp (t_bool rfl)) F3 ?_
   exact no_dec (fun h => h2 (by rw [h]))
  ·
   refine lx_value (want rfl) (pick_f rfl rfl) ?_
   refine lx_nil ?_
   refine wk_cond_f rfl ?_
   refine wk_skip ?_
   refine wk_seq ?_
   refine wk_seq ?_
   refine wk_region ?_
   refine lx_value (want rfl) (as_int rfl) ?_
   refine lx_nil ?_
   refine wk_block ?_
   refine wk_loopA [4, 5, 21, 22, 23, 24, 25, 26, 27, 28, 29, 30, 31, 32, 33, 34, 35, 36, 37, 38, 39] no (fun nM ρ w => ∃ (i : Nat), nM = p.2.length - i ∧ ρ 5 = .int .i64 i ∧ (i ≤ p.2.length) ∧ (p.2.take i = q.2.take i)) _ ⟨0, rfl, rfl, by omega, rfl⟩ ?_
   rintro n1 ρ1 w4 A1 EL1 ⟨i, rfl, hs1_5, hi, hq⟩
   have F4 := F3.ext EL1
   have hzL1 := EL1.size
   refine wk_seq ?_
   refine wk_seq ?_
   refine wk_region ?_
   refine lx_value (want rfl) (mv_int hs1_5) ?_
   refine lx_value (want rfl) (rn_fieldAddr fa_45_1 (A1.at 2 rfl rfl)) ?_
   refine lx_value (want rfl) (rn_load1Blk ag_43 rfl (((B1.ext Eb2).ext E1).ext EL1) rfl) ?_
   refine lx_value (want rfl) (rn_len Tryz.underlying43 rfl) ?_
   refine lx_value (want rfl) (rn_lss rfl rfl) ?_
   refine lx_dec (fun hlt => ?_) (fun hlt => ?_)
   ·
    obtain ⟨x, hx⟩ := getx hlt
    obtain ⟨y, hy⟩ : ∃ y, q.2[i]? = some y := getx (by omega)
    obtain ⟨bx, ox, rfl, _, sx, cx, hcx, hpx⟩ := hk i x hx
    obtain ⟨by_, oy, rfl, _, sy, cy, hcy, hpy⟩ := hk2 i y hy
    refine lx_nil ?_
    refine wk_cond_t rfl ?_
    refine wk_skip ?_
    refine wk_seq ?_
    refine wk_block ?_
    refine wk_seq ?_
    refine wk_mix 10 (fun _ => .none) (by kernel_rfl) (by kernel_rfl) (fun kS G hk => by cases hk) (fun kS s y G hk => by cases hk) ?_
    simp only [List.take_succ_cons, List.take_zero, List.take_nil, List.drop_succ_cons, List.drop_zero, List.drop_nil]
    refine mx_calm rfl (want rfl) (fun u1 eu1 fu1 => rn_fieldAddr fa_45_1 (A1.at 2 rfl rfl)) ?_
    refine mx_calm rfl (want rfl) (fun u2 eu2 fu2 => rn_load1Blk ag_43 rfl ((((B1.ext Eb2).ext E1).ext EL1).ext ((ext_drawn _).trans' eu2)) rfl) ?_
    refine mx_calm rfl (want rfl) (fun u3 eu3 fu3 => mv_int hs1_5) ?_
    refine mx_calm rfl (want rfl) (fun u4 eu4 fu4 => rn_index _ Tryz.underlying43 sz_30 rfl rfl rfl (by omega)) ?_
    refine mx_calm rfl (want rfl) (fun u5 eu5 fu5 => rn_load1 ag_30 rfl ((F4.ext ((ext_drawn _).trans' eu5)).cell (fun h => h) hcx)) ?_
    refine mx_calm rfl (want rfl) (fun u6 eu6 fu6 => rn_fieldAddr fa_45_1 (A1.at 3 rfl rfl)) ?_
    refine mx_calm rfl (want rfl) (fun u7 eu7 fu7 => rn_load1Blk ag_43 rfl (((B2.ext E1).ext EL1).ext ((ext_drawn _).trans' eu7)) rfl) ?_
    refine mx_calm rfl (want rfl) (fun u8 eu8 fu8 => mv_int hs1_5) ?_
    refine mx_calm rfl (want rfl) (fun u9 eu9 fu9 => rn_index _ Tryz.underlying43 sz_30 rfl rfl rfl (by omega)) ?_
    refine mx_calm rfl (want rfl) (fun u10 eu10 fu10 => rn_load1 ag_30 rfl ((F4.ext ((ext_drawn _).trans' eu10)).cell (fun h => h) hcy)) ?_
    refine mx_nil (fun w5 E2' H1 HS => ?_)
    have E2 := (ext_drawn _).trans' E2'
    have F5 := F4.ext E2
    have hz2 := E2.size
    refine lx_call (want rfl) (ent_func cf_25 (argsC (t_slice rfl) (argsC (t_slice rfl) args0))) (samevalues_ct x y _ _ _ _ _ _ w5 (hpx.fr (vl_stab _) F5 (fun _ _ h => h)) (hpy.fr (vl_stab _) F5 (fun _ _ h => h)) (hB.get hy)) ?_
    rintro _ w6 E3 rfl
    have F6 := F5.ext E3
    have hz3 := E3.size
    refine lx_split (fun hne => ?_) (fun hne => ?_)
    ·
     refine lx_value (want rfl) (rn_not rfl) ?_
     refine lx_nil ?_
     refine wk_cond_f rfl ?_
     refine wk_skip ?_
     refine wk_region ?_
     refine lx_value (want rfl) (mv_int hs1_5) ?_
     refine lx_value (want rfl) (rn_add rfl rfl (by omega)) ?_
     refine lx_value (want rfl) (as_int rfl) ?_
     refine lx_nil ?_
     exact ⟨rfl, ((((((((((((((((((((A1.up rfl _).up rfl _).up rfl _).up rfl _).up rfl _).up rfl _).up rfl _).up rfl _).up rfl _).up rfl _).up rfl _).up rfl _).up rfl _).up rfl _).up rfl _).up rfl _).up rfl _).up rfl _).up rfl _).up rfl _), (Fr.ext (Fr.ext EL1 E2) E3), _, (by omega), i + 1, rfl, rfl, by omega, (eqs_step hq hx hy (of_decide_eq_true hne))⟩
    ·
     refine lx_value (want rfl) (rn_not rfl) ?_
     refine lx_nil ?_
     refine wk_cond_t rfl ?_
     refine wk_seq ?_
     refine wk_region ?_
     refine lx_value (want rfl) (as_bool rfl) ?_
     refine lx_nil ?_
     refine wk_ret ?_
     refine retR1 Tryz.results32 (.tmp (t_bool rfl)) F6 ?_
     exact no_dec (fun h => eqs_ne hx hy (of_decide_eq_false hne) (by rw [h]))
   ·
    refine lx_nil ?_
    refine wk_cond_f rfl ?_
    refine wk_exit ?_
    refine wk_seq ?_
    refine wk_region ?_
    refine lx_value (want rfl) (as_bool rfl) ?_
    refine lx_nil ?_
    refine wk_ret ?_
    refine retR1 Tryz.results32 (.tmp (t_bool rfl)) F4 ?_
    exact yes_dec (Prod.ext (of_decide_eq_true h1) (eqs_end hq (by omega) hlt))
 ·
  refine lx_value (want rfl) (rn_not rfl) ?_
  refine lx_value (want rfl) (mv_bool rfl) ?_
  refine lx_skip (want_if (j := 6) (d := 12) (x := false) (y := true) rfl rfl (by decide) rfl) ?_
  refine lx_skip (want_if (j := 6) (d := 12) (x := false) (y := true) rfl rfl (by decide) rfl) ?_
  refine lx_skip (want_if (j := 6) (d := 12) (x := false) (y := true) rfl rfl (by decide) rfl) ?_
  refine lx_skip (want_if (j := 6) (d := 12) (x := false) (y := true) rfl rfl (by decide) rfl) ?_
  refine lx_skip (want_if (j := 6) (d := 12) (x := false) (y := true) rfl rfl (by decide) rfl) ?_
  refine lx_skip (want_if (j := 6) (d := 12) (x := false) (y := true) rfl rfl (by decide) rfl) ?_
  refine lx_skip (want_if (j := 6) (d := 12) (x := false) (y := true) rfl rfl (by decide) rfl) ?_
  refine lx_value (want rfl) (pick_t rfl rfl) ?_
  refine lx_nil ?_
  refine wk_cond_t rfl ?_
  refine wk_seq ?_
  refine wk_region ?_
  refine lx_value (want rfl) (as_bool rfl) ?_
  refine lx_nil ?_
  refine wk_ret ?_
  refine retR1 Tryz.results32 (.tmp (t_bool rfl)) F3 ?_
  exact no_dec (fun h => of_decide_eq_false h1 (by rw [h]))

theorem concat_ct (L : List (List Int)) (s : Option Addr) (c : Nat) (F : Nat → Prop) (hLn : L.length ≤ 1048576) (hLl : ∀ l ∈ L, l.length ≤ 1048576) (hLs : sumI L ≤ 1048576) (w0 : World) (hl : IIS F w0 s L) :
  CT Tryz.prog 102 [.slice s L.length c] w0 no (fun v w => ∃ s' c', v = .slice s' (sumI L) c' ∧ OwnS w 3 1 s' (sumI L) c' (L.flatten.flatMap intC) ∧ ∀ k, ob s' k → w0.heap.size ≤ k) := by
 have F0 := Fr.refl no w0
 refine ct_body Tryz.func102 rfl Tryz.ntmps102 (Nat.le_of_ble_eq_true rfl) ?_
 refine wk_seq ?_
 refine wk_region ?_
 refine lx_value (want rfl) (as_slice rfl) ?_
 refine lx_nil ?_
 refine wk_seq ?_
 refine wk_region ?_
 refine lx_value (want rfl) (as_int rfl) ?_
 refine lx_nil ?_
 refine wk_seq ?_
 refine wk_seq ?_
 refine wk_region ?_
 refine lx_value (want rfl) (mv_slice rfl) ?_
 refine lx_value (want rfl) (rn_len Tryz.underlying95 rfl) ?_
 refine lx_value (want rfl) (mv_int rfl) ?_
 refine lx_nil ?_
 refine wk_block ?_
 refine wk_loopA [3, 5, 11, 12, 13, 14, 15, 16, 17, 18, 19, 20, 21, 22] no (fun nM ρ w => ∃ (i : Nat), nM = L.length - i ∧ ρ 11 = .int .i64 i ∧ ρ 3 = .int .i64 (sumI (L.take i) : Nat) ∧ (i ≤ L.length)) _ ⟨0, rfl, rfl, rfl, Nat.zero_le _⟩ ?_
 rintro n1 ρ1 w1 A1 EL1 ⟨i, rfl, hs1_11, hs1_3, hi⟩
 have F1 := F0.ext EL1
 have hzL1 := EL1.size
 refine wk_seq ?_
 refine wk_region ?_
 refine lx_value (want rfl) (rn_lss hs1_11 (A1.at 10 rfl rfl)) ?_
 refine lx_dec (fun hlt => ?_) (fun hlt => ?_)
 ·
  obtain ⟨x, hx⟩ := getx hlt
  obtain ⟨bx, ox, hsx, _, sx, cx, hcx, hpx⟩ := hl i x hx
  subst hsx
  have hxl := hLl x (List.mem_of_getElem? hx)
  have hst := suI_step hx
  have hsl := suI_le L (i + 1)
  refine lx_nil ?_
  refine wk_seq ?_
  refine wk_cond_t rfl ?_
  refine wk_skip ?_
  refine wk_seq ?_
  refine wk_block ?_
  refine wk_seq ?_
  refine wk_region ?_
  refine lx_value (want rfl) (rn_index i Tryz.underlying95 sz_77 (A1.at 9 rfl rfl) hs1_11 rfl (by omega)) ?_
  refine lx_value (want rfl) (rn_load1 ag_77 rfl (F1.cell (fun h => h) hcx)) ?_
  refine lx_value (want rfl) (as_slice rfl) ?_
  refine lx_nil ?_
  refine wk_seq ?_
  refine wk_region ?_
  refine lx_value (want rfl) (mv_int hs1_3) ?_
  refine lx_value (want rfl) (mv_slice rfl) ?_
  refine lx_value (want rfl) (rn_len Tryz.underlying77 rfl) ?_
  refine lx_value (want rfl) (rn_addN rfl rfl (by omega)) ?_
  refine lx_value (want rfl) (as_int rfl) ?_
  refine lx_nil ?_
  refine wk_seq ?_
  refine wk_region ?_
  refine lx_value (want rfl) (mv_int rfl) ?_
  refine lx_value (want rfl) (rn_lss rfl rfl) ?_
  refine lx_dec_f ((by omega)) ?_
  refine lx_nil ?_
  refine wk_cond_f rfl ?_
  refine wk_skip ?_
  refine wk_region ?_
  refine lx_value (want rfl) (rn_add hs1_11 rfl (by omega)) ?_
  refine lx_value (want rfl) (mv_int rfl) ?_
  refine lx_nil ?_
  exact ⟨rfl, (((((((((((((A1.up rfl _).up rfl _).up rfl _).up rfl _).up rfl _).up rfl _).up rfl _).up rfl _).up rfl _).up rfl _).up rfl _).up rfl _).up rfl _), EL1, _, (by omega), i + 1, rfl, rfl, (by rw [hst]; exact rfl), by omega⟩
 ·
  refine lx_nil ?_
  refine wk_seq ?_
  refine wk_cond_f rfl ?_
  refine wk_exit ?_
  refine wk_seq ?_
  refine wk_region ?_
  refine lx_value (want rfl) (mv_int hs1_3) ?_
  refine lx_call (want rfl) (ent_func cf_147 (argsC (t_slice rfl) (argsC (t_int rfl) args0))) (growi_ct (sumI (L.take i)) (by have := suI_le L i; omega) w1) ?_
  rintro _ w2 E1 ⟨sG, cG, rfl, hOG, hgG⟩
  have F2 := F1.ext E1
  have hz1 := E1.size
  have ge1 : ∀ k, ob sG k → w0.heap.size ≤ k := fun k hk => (by have := hgG k hk; omega)
  refine lx_value (want rfl) (as_slice rfl) ?_
  refine lx_nil ?_
  refine wk_seq ?_
  refine wk_seq ?_
  refine wk_region ?_
  refine lx_value (want rfl) (mv_slice (A1.at 0 rfl rfl)) ?_
  refine lx_value (want rfl) (rn_len Tryz.underlying95 rfl) ?_
  refine lx_value (want rfl) (mv_int rfl) ?_
  refine lx_nil ?_
  refine wk_block ?_
  refine wk_loopA [6, 8, 27, 28, 29, 30, 31, 32, 33, 34] (fun j => no j ∨ w0.heap.size ≤ j) (fun nM ρ w => ∃ (j : Nat) (so2_6 : Option Addr) (co2_6 : Nat), nM = L.length - j ∧ ρ 27 = .int .i64 j ∧ ρ 6 = .slice so2_6 (sumI (L.take j)) co2_6 ∧ OwnS w 3 1 so2_6 (sumI (L.take j)) co2_6 ((L.take j).flatten.flatMap intC) ∧ (∀ k, ob so2_6 k → w0.heap.size ≤ k) ∧ (j ≤ L.length)) _ ⟨0, sG, cG, rfl, rfl, rfl, hOG, ge1, Nat.zero_le _⟩ ?_
  rintro n2 ρ2 w3 A2 EL2 ⟨j, so2_6, co2_6, rfl, hs2_27, ho2_6, ow2L_6, ge2L_6, hj⟩
  have F3 := F2.wide EL2
  have hzL2 := EL2.size
  refine wk_seq ?_
  refine wk_region ?_
  refine lx_value (want rfl) (rn_lss hs2_27 (A2.at 26 rfl rfl)) ?_
  refine lx_dec (fun hlt2 => ?_) (fun hlt2 => ?_)
  ·
   obtain ⟨x, hx⟩ := getx hlt2
   obtain ⟨bx, ox, hsx, _, sx, cx, hcx, hpx⟩ := hl j x hx
   subst hsx
   have hxl := hLl x (List.mem_of_getElem? hx)
   have hst := suI_step hx
   have hsl := suI_le L (j + 1)
   refine lx_nil ?_
   refine wk_seq ?_
   refine wk_cond_t rfl ?_
   refine wk_skip ?_
   refine wk_seq ?_
   refine wk_block ?_
   refine wk_seq ?_
   refine wk_region ?_
   refine lx_value (want rfl) (rn_index j Tryz.underlying95 sz_77 (A2.at 25 rfl rfl) hs2_27 rfl (by omega)) ?_
   refine lx_value (want rfl) (rn_load1 ag_77 rfl (F3.cell (fun h => h) hcx)) ?_
   refine lx_value (want rfl) (as_slice rfl) ?_
   refine lx_nil ?_
   refine wk_region ?_
   refine lx_value (want rfl) (mv_slice ho2_6) ?_
   refine lx_value (want rfl) (mv_slice rfl) ?_
   refine lx_append 8 (want rfl) Tryz.underlying77 ti_3 (by decide) rfl (by decide) rfl rfl ow2L_6 (((hpx.fr (int_stab _) F3 (fun _ _ h => h)).src (fun _ _ => rfl) (fun _ _ u hu => int_one hu) (by decide))) (by omega) ?_
   intro sq2 cq2 w4 AP2
   have EA2 := AP2.fr
   have ow2 := AP2.own
   have ge2 : ∀ k, ob sq2 k → w0.heap.size ≤ k := fun k hk => (AP2.blk k hk).elim (ge2L_6 k) (fun h => (Nat.le_trans F3.size h))
   have F4 := F3.new EA2 ge2L_6
   have hzA2 := EA2.size
   refine lx_value (want rfl) (as_slice rfl) ?_
   refine lx_nil ?_
   refine wk_region ?_
   refine lx_value (want rfl) (rn_add hs2_27 rfl (by omega)) ?_
   refine lx_value (want rfl) (mv_int rfl) ?_
   refine lx_nil ?_
   exact ⟨rfl, ((((((((((A2.up rfl _).up rfl _).up rfl _).up rfl _).up rfl _).up rfl _).up rfl _).up rfl _).up rfl _).up rfl _), Fr.between F2 F4 (by omega), _, (by omega), j + 1, sq2, cq2, rfl, rfl, (by rw [hst]; exact rfl), (by rw [hst, flat_on hx]; exact ow2), ge2, by omega⟩
  ·
   refine lx_nil ?_
   refine wk_seq ?_
   refine wk_cond_f rfl ?_
   refine wk_exit ?_
   refine wk_seq ?_
   refine wk_region ?_
   refine lx_value (want rfl) (mv_slice ho2_6) ?_
   refine lx_value (want rfl) (as_slice rfl) ?_
   refine lx_nil ?_
   refine wk_ret ?_
   refine retR1 Tryz.results102 (.tmp (t_slice rfl)) F3 ?_
   have hO := ow2L_6; rw [flat_end hlt2] at hO; exact ⟨_, _, by rw [flat_end hlt2], hO, ge2L_6⟩

theorem isvalue_ct (k n : Int) (m : Nat) (hm : m ≤ 1048576) (w0 : World) :
  CT Tryz.prog 75 [.agg #[.int .u8 k, .int .i64 n], .int .i64 m] w0 no (fun v _ => v = .bool (isVal (k, n) m)) := by
 have F0 := Fr.refl no w0
 refine ct_body Tryz.func75 rfl Tryz.ntmps75 (Nat.le_of_ble_eq_true rfl) ?_
 refine wk_seq ?_
 refine wk_region ?_
 refine lx_new (want rfl) (rn_box (t_agg rfl)) ?_
 intro b1 w1 hb1 Eb1 B1 hlb1
 have F1 := F0.ext Eb1
 have hzb1 := Eb1.size
 refine lx_value (want rfl) (as_bool rfl) ?_
 refine lx_nil ?_
 refine wk_seq ?_
 refine wk_seq ?_
 refine wk_region ?_
 refine lx_value (want rfl) (rn_fieldAddr fa_36_0 rfl) ?_
 refine lx_value (want rfl) (rn_load1Blk ag_5 rfl B1 rfl) ?_
 refine lx_nil ?_
 refine wk_block ?_
 refine wk_seq ?_
 refine wk_seq ?_
 refine wk_region ?_
 refine lx_value (want rfl) (rn_eql rfl rfl) ?_
 refine lx_dec (fun h0 => ?_) (fun h0 => ?_)
 ·
  refine lx_value (want rfl) (as_bool rfl) ?_
  refine lx_nil ?_
  refine wk_cond_t rfl ?_
  refine wk_skip ?_
  refine wk_cond_t rfl ?_
  refine wk_seq ?_
  refine wk_region ?_
  refine lx_value (want rfl) (rn_fieldAddr fa_36_1 rfl) ?_
  refine lx_value (want rfl) (rn_load1Blk ag_3 rfl B1 rfl) ?_
  refine lx_value (want rfl) (rn_eql rfl rfl) ?_
  refine lx_value (want rfl) (as_bool rfl) ?_
  refine lx_nil ?_
  refine wk_ret ?_
  refine retR1 Tryz.results75 (.tmp (t_bool rfl)) F1 ?_
  exact val_zero (.inl h0)
 ·
  refine lx_value (want rfl) (as_bool rfl) ?_
  refine lx_nil ?_
  refine wk_cond_f rfl ?_
  refine wk_region ?_
  refine lx_value (want rfl) (rn_eql rfl rfl) ?_
  refine lx_dec (fun h3 => ?_) (fun h3 => ?_)
  ·
   refine lx_value (want rfl) (as_bool rfl) ?_
   refine lx_nil ?_
   refine wk_cond_t rfl ?_
   refine wk_seq ?_
   refine wk_region ?_
   refine lx_value (want rfl) (rn_fieldAddr fa_36_1 rfl) ?_
   refine lx_value (want rfl) (rn_load1Blk ag_3 rfl B1 rfl) ?_
   refine lx_value (want rfl) (rn_eql rfl rfl) ?_
   refine lx_value (want rfl) (as_bool rfl) ?_
   refine lx_nil ?_
   refine wk_ret ?_
   refine retR1 Tryz.results75 (.tmp (t_bool rfl)) F1 ?_
   exact val_zero (.inr h3)
  ·
   refine lx_value (want rfl) (as_bool rfl) ?_
   refine lx_nil ?_
   refine wk_cond_f rfl ?_
   refine wk_seq ?_
   refine wk_region ?_
   refine lx_value (want rfl) (rn_eql rfl rfl) ?_
   refine lx_dec (fun h1 => ?_) (fun h1 => ?_)
   ·
    refine lx_value (want rfl) (as_bool rfl) ?_
    refine lx_nil ?_
    refine wk_cond_t rfl ?_
    refine wk_seq ?_
    refine wk_region ?_
    refine lx_value (want rfl) (rn_fieldAddr fa_36_1 rfl) ?_
    refine lx_value (want rfl) (rn_load1Blk ag_3 rfl B1 rfl) ?_
    refine lx_call (want rfl) (ent_func cf_94 (argsC (t_int rfl) (argsC (t_int rfl) (argsC (t_int rfl) args0)))) (within_ct _ _ _ w1) ?_
    rintro _ w2 E1 rfl
    have F2 := F1.ext E1
    have hz1 := E1.size
    refine lx_value (want rfl) (as_bool rfl) ?_
    refine lx_nil ?_
    refine wk_ret ?_
    refine retR1 Tryz.results75 (.tmp (t_bool rfl)) F2 ?_
    exact val_int h1
   ·
    refine lx_value (want rfl) (as_bool rfl) ?_
    refine lx_nil ?_
    refine wk_cond_f rfl ?_
    refine wk_seq ?_
    refine wk_region ?_
    refine lx_value (want rfl) (rn_eql rfl rfl) ?_
    refine lx_dec (fun h2 => ?_) (fun h2 => ?_)
    ·
     refine lx_value (want rfl) (as_bool rfl) ?_
     refine lx_nil ?_
     refine wk_cond_t rfl ?_
     refine wk_seq ?_
     refine wk_region ?_
     refine lx_value (want rfl) (rn_fieldAddr fa_36_1 rfl) ?_
     refine lx_value (want rfl) (rn_load1Blk ag_3 rfl B1 rfl) ?_
     refine lx_call (want rfl) (ent_func cf_94 (argsC (t_int rfl) (argsC (t_int rfl) (argsC (t_int rfl) args0)))) (within_ct _ _ _ w1) ?_
     rintro _ w2 E2 rfl
     have F3 := F1.ext E2
     have hz2 := E2.size
     refine lx_value (want rfl) (as_bool rfl) ?_
     refine lx_nil ?_
     refine wk_ret ?_
     refine retR1 Tryz.results75 (.tmp (t_bool rfl)) F3 ?_
     exact val_bool h2
    ·
     refine lx_value (want rfl) (as_bool rfl) ?_
     refine lx_nil ?_
     refine wk_cond_f rfl ?_
     refine wk_seq ?_
     refine wk_region ?_
     refine lx_value (want rfl) (rn_eql rfl rfl) ?_
     refine lx_dec (fun h4 => ?_) (fun h4 => ?_)
     ·
      refine lx_value (want rfl) (as_bool rfl) ?_
      refine lx_nil ?_
      refine wk_cond_t rfl ?_
      refine wk_seq ?_
      refine wk_region ?_
      refine lx_value (want rfl) (rn_fieldAddr fa_36_1 rfl) ?_
      refine lx_value (want rfl) (rn_load1Blk ag_3 rfl B1 rfl) ?_
      refine lx_value (want rfl) (mv_int rfl) ?_
      refine lx_value (want rfl) (rn_sub rfl rfl (by omega)) ?_
      refine lx_call (want rfl) (ent_func cf_94 (argsC (t_int rfl) (argsC (t_int rfl) (argsC (t_int rfl) args0)))) (within_ct _ _ _ w1) ?_
      rintro _ w2 E3 rfl
      have F4 := F1.ext E3
      have hz3 := E3.size
      refine lx_value (want rfl) (as_bool rfl) ?_
      refine lx_nil ?_
      refine wk_ret ?_
      refine retR1 Tryz.results75 (.tmp (t_bool rfl)) F4 ?_
      exact val_ref h4
     ·
      refine lx_value (want rfl) (as_bool rfl) ?_
      refine lx_nil ?_
      refine wk_cond_f rfl ?_
      refine wk_seq ?_
      refine wk_region ?_
      refine lx_value (want rfl) (rn_eql rfl rfl) ?_
      refine lx_dec (fun h5 => ?_) (fun h5 => ?_)
      ·
       refine lx_value (want rfl) (as_bool rfl) ?_
       refine lx_nil ?_
       refine wk_cond_t rfl ?_
       refine wk_seq ?_
       refine wk_region ?_
       refine lx_value (want rfl) (rn_fieldAddr fa_36_1 rfl) ?_
       refine lx_value (want rfl) (rn_load1Blk ag_3 rfl B1 rfl) ?_
       refine lx_call (want rfl) (ent_func cf_94 (argsC (t_int rfl) (argsC (t_int rfl) (argsC (t_int rfl) args0)))) (within_ct _ _ _ w1) ?_
       rintro _ w2 E4 rfl
       have F5 := F1.ext E4
       have hz4 := E4.size
       refine lx_value (want rfl) (as_bool rfl) ?_
       refine lx_nil ?_
       refine wk_ret ?_
       refine retR1 Tryz.results75 (.tmp (t_bool rfl)) F5 ?_
       exact val_bad h5
      ·
       refine lx_value (want rfl) (as_bool rfl) ?_
       refine lx_nil ?_
       refine wk_cond_f rfl ?_
       refine wk_skip ?_
       refine wk_seq ?_
       refine wk_region ?_
       refine lx_value (want rfl) (as_bool rfl) ?_
       refine lx_nil ?_
       refine wk_ret ?_
       refine retR1 Tryz.results75 (.tmp (t_bool rfl)) F1 ?_
       exact val_no ⟨h0, h3, h1, h2, h4, h5⟩

end Go.Proofs.YtnhgfmbmfjmonaaGreatDoor

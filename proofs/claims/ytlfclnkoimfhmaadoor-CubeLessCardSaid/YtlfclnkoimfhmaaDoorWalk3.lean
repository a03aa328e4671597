/- What functions of the cube compute: same, put, take, refnew, first, hasroom, over, contains, containsp, tz, ones. -/
import Derived.Test.YtlfclnkoimfhmaaDoorFacts
import Derived.Test.YtlfclnkoimfhmaaDoorPre
import Derived.Test.YtlfclnkoimfhmaaDoorWalk1
set_option linter.unusedVariables false
set_option linter.unusedSimpArgs false
namespace Go.Proofs.YtlfclnkoimfhmaaDoor
open Go Go.RowKit Go.Mix Go.Eng
theorem same_ct (d r : Int) (a : List (List Pk)) (sa : Option Addr) (ca : Nat) (Fa : Nat → Prop) (d2 r2 : Int) (b : List (List Pk)) (sb : Option Addr) (cb : Nat) (Fb : Nat → Prop) (w0 : World) (ha : BufS Fa w0 sa a) (hb : BufS Fb w0 sb b) (hB : Bd b) :
    CT Tryd.prog 19 [.agg #[.int .i64 d, .int .i64 r, .slice sa a.length ca], .agg #[.int .i64 d2, .int .i64 r2, .slice sb b.length cb]] w0 no (fun v _ => v = .bool (decide (d = d2 ∧ r = r2 ∧ a = b))) := by
  have F0 := Fr.refl no w0
  refine ct_body Tryd.func19 rfl Tryd.ntmps19 (Nat.le_of_ble_eq_true rfl) ?_
  refine wk_seq ?_
  refine wk_region ?_
  refine lx_new (want rfl) (rn_box (t_agg rfl)) ?_
  intro b1 w1 hb1 Eb1 B1 hlb1
  have F1 := F0.ext Eb1
  have hzb1 := Eb1.size
  refine lx_new (want rfl) (rn_box (t_agg rfl)) ?_
  intro b2 w2 hb2 Eb2 B2 hlb2
  have F2 := F1.ext Eb2
  have hzb2 := Eb2.size
  refine lx_value (want rfl) (as_bool rfl) ?_
  refine lx_nil ?_
  refine wk_seq ?_
  refine wk_seq ?_
  refine wk_region ?_
  refine lx_value (want rfl) (rn_fieldAddr fa_24_0 rfl) ?_
  refine lx_value (want rfl) (rn_load1Blk ag_3 rfl (B1.ext Eb2) rfl) ?_
  refine lx_value (want rfl) (rn_fieldAddr fa_24_0 rfl) ?_
  refine lx_value (want rfl) (rn_load1Blk ag_3 rfl B2 rfl) ?_
  refine lx_value (want rfl) (rn_neq rfl rfl) ?_
  refine lx_dec (fun h1 => ?_) (fun h1 => ?_)
  ·
    refine lx_value (want rfl) (mv_bool rfl) ?_
    refine lx_skip (want_if (j := 5) (d := 11) (x := false) (y := true) rfl rfl (by decide) rfl) ?_
    refine lx_skip (want_if (j := 5) (d := 11) (x := false) (y := true) rfl rfl (by decide) rfl) ?_
    refine lx_skip (want_if (j := 5) (d := 11) (x := false) (y := true) rfl rfl (by decide) rfl) ?_
    refine lx_skip (want_if (j := 5) (d := 11) (x := false) (y := true) rfl rfl (by decide) rfl) ?_
    refine lx_skip (want_if (j := 5) (d := 11) (x := false) (y := true) rfl rfl (by decide) rfl) ?_
    refine lx_value (want rfl) (pick_t rfl rfl) ?_
    refine lx_value (want rfl) (mv_bool rfl) ?_
    refine lx_skip (want_if (j := 12) (d := 18) (x := false) (y := true) rfl rfl (by decide) rfl) ?_
    refine lx_skip (want_if (j := 12) (d := 18) (x := false) (y := true) rfl rfl (by decide) rfl) ?_
    refine lx_skip (want_if (j := 12) (d := 18) (x := false) (y := true) rfl rfl (by decide) rfl) ?_
    refine lx_skip (want_if (j := 12) (d := 18) (x := false) (y := true) rfl rfl (by decide) rfl) ?_
    refine lx_skip (want_if (j := 12) (d := 18) (x := false) (y := true) rfl rfl (by decide) rfl) ?_
    refine lx_skip (want_if (j := 12) (d := 18) (x := false) (y := true) rfl rfl (by decide) rfl) ?_
    refine lx_skip (want_if (j := 12) (d := 18) (x := false) (y := true) rfl rfl (by decide) rfl) ?_
    refine lx_value (want rfl) (pick_t rfl rfl) ?_
    refine lx_nil ?_
    refine wk_cond_t rfl ?_
    refine wk_seq ?_
    refine wk_region ?_
    refine lx_value (want rfl) (as_bool rfl) ?_
    refine lx_nil ?_
    refine wk_ret ?_
    refine retR1 Tryd.results19 (.tmp (t_bool rfl)) F2 ?_
    exact no_dec (fun h => h1 h.1)
  ·
    refine lx_value (want rfl) (mv_bool rfl) ?_
    refine lx_value (want_if (j := 5) (d := 11) (x := false) (y := false) rfl rfl (by decide) rfl) (rn_fieldAddr fa_24_1 rfl) ?_
    refine lx_value (want_if (j := 5) (d := 11) (x := false) (y := false) rfl rfl (by decide) rfl) (rn_load1Blk ag_3 rfl (B1.ext Eb2) rfl) ?_
    refine lx_value (want_if (j := 5) (d := 11) (x := false) (y := false) rfl rfl (by decide) rfl) (rn_fieldAddr fa_24_1 rfl) ?_
    refine lx_value (want_if (j := 5) (d := 11) (x := false) (y := false) rfl rfl (by decide) rfl) (rn_load1Blk ag_3 rfl B2 rfl) ?_
    refine lx_value (want_if (j := 5) (d := 11) (x := false) (y := false) rfl rfl (by decide) rfl) (rn_neq rfl rfl) ?_
    refine lx_dec (fun h2 => ?_) (fun h2 => ?_)
    ·
      refine lx_value (want rfl) (pick_f rfl rfl) ?_
      refine lx_value (want rfl) (mv_bool rfl) ?_
      refine lx_skip (want_if (j := 12) (d := 18) (x := false) (y := true) rfl rfl (by decide) rfl) ?_
      refine lx_skip (want_if (j := 12) (d := 18) (x := false) (y := true) rfl rfl (by decide) rfl) ?_
      refine lx_skip (want_if (j := 12) (d := 18) (x := false) (y := true) rfl rfl (by decide) rfl) ?_
      refine lx_skip (want_if (j := 12) (d := 18) (x := false) (y := true) rfl rfl (by decide) rfl) ?_
      refine lx_skip (want_if (j := 12) (d := 18) (x := false) (y := true) rfl rfl (by decide) rfl) ?_
      refine lx_skip (want_if (j := 12) (d := 18) (x := false) (y := true) rfl rfl (by decide) rfl) ?_
      refine lx_skip (want_if (j := 12) (d := 18) (x := false) (y := true) rfl rfl (by decide) rfl) ?_
      refine lx_value (want rfl) (pick_t rfl rfl) ?_
      refine lx_nil ?_
      refine wk_cond_t rfl ?_
      refine wk_seq ?_
      refine wk_region ?_
      refine lx_value (want rfl) (as_bool rfl) ?_
      refine lx_nil ?_
      refine wk_ret ?_
      refine retR1 Tryd.results19 (.tmp (t_bool rfl)) F2 ?_
      exact no_dec (fun h => h2 h.2.1)
    ·
      refine lx_value (want rfl) (pick_f rfl rfl) ?_
      refine lx_value (want rfl) (mv_bool rfl) ?_
      refine lx_value (want_if (j := 12) (d := 18) (x := false) (y := false) rfl rfl (by decide) rfl) (rn_fieldAddr fa_24_2 rfl) ?_
      refine lx_value (want_if (j := 12) (d := 18) (x := false) (y := false) rfl rfl (by decide) rfl) (rn_load1Blk ag_22 rfl (B1.ext Eb2) rfl) ?_
      refine lx_value (want_if (j := 12) (d := 18) (x := false) (y := false) rfl rfl (by decide) rfl) (rn_len Tryd.underlying22 rfl) ?_
      refine lx_value (want_if (j := 12) (d := 18) (x := false) (y := false) rfl rfl (by decide) rfl) (rn_fieldAddr fa_24_2 rfl) ?_
      refine lx_value (want_if (j := 12) (d := 18) (x := false) (y := false) rfl rfl (by decide) rfl) (rn_load1Blk ag_22 rfl B2 rfl) ?_
      refine lx_value (want_if (j := 12) (d := 18) (x := false) (y := false) rfl rfl (by decide) rfl) (rn_len Tryd.underlying22 rfl) ?_
      refine lx_value (want_if (j := 12) (d := 18) (x := false) (y := false) rfl rfl (by decide) rfl) (rn_neq rfl rfl) ?_
      refine lx_dec (fun h3 => ?_) (fun h3 => ?_)
      ·
        refine lx_value (want rfl) (pick_f rfl rfl) ?_
        refine lx_nil ?_
        refine wk_cond_t rfl ?_
        refine wk_seq ?_
        refine wk_region ?_
        refine lx_value (want rfl) (as_bool rfl) ?_
        refine lx_nil ?_
        refine wk_ret ?_
        refine retR1 Tryd.results19 (.tmp (t_bool rfl)) F2 ?_
        exact no_dec (fun h => len_ne h3 h.2.2)
      ·
        refine lx_value (want rfl) (pick_f rfl rfl) ?_
        refine lx_nil ?_
        refine wk_cond_f rfl ?_
        refine wk_skip ?_
        refine wk_seq ?_
        refine wk_seq ?_
        refine wk_region ?_
        refine lx_value (want rfl) (as_int rfl) ?_
        refine lx_nil ?_
        refine wk_block ?_
        refine wk_loopA [4, 5, 27, 28, 29, 30, 31, 32, 33, 34, 35, 36, 37, 38, 39, 40, 41, 42, 43, 44, 45] no (fun nM ρ w => ∃ (i : Nat), nM = a.length - i ∧ ρ 5 = .int .i64 i ∧ (i ≤ a.length) ∧ (a.take i = b.take i)) _ ⟨0, rfl, rfl, by omega, rfl⟩ ?_
        rintro n1 ρ1 w3 A1 EL1 ⟨i, rfl, hs1_5, hi, hq⟩
        have F3 := F2.ext EL1
        have hzL1 := EL1.size
        refine wk_seq ?_
        refine wk_seq ?_
        refine wk_region ?_
        refine lx_value (want rfl) (mv_int hs1_5) ?_
        refine lx_value (want rfl) (rn_fieldAddr fa_24_2 (A1.at 2 rfl rfl)) ?_
        refine lx_value (want rfl) (rn_load1Blk ag_22 rfl ((B1.ext Eb2).ext EL1) rfl) ?_
        refine lx_value (want rfl) (rn_len Tryd.underlying22 rfl) ?_
        refine lx_value (want rfl) (rn_lss rfl rfl) ?_
        refine lx_dec (fun hlt => ?_) (fun hlt => ?_)
        ·
          have hBl := hB.1
          obtain ⟨x, hx⟩ := getx hlt
          obtain ⟨y, hy⟩ : ∃ y, b[i]? = some y := getx (by omega)
          obtain ⟨bx, ox, rfl, _, sx, cx, hcx, hpx⟩ := ha i x hx
          obtain ⟨by_, oy, rfl, _, sy, cy, hcy, hpy⟩ := hb i y hy
          refine lx_nil ?_
          refine wk_cond_t rfl ?_
          refine wk_skip ?_
          refine wk_seq ?_
          refine wk_block ?_
          refine wk_seq ?_
          refine wk_mix 10 (fun _ => .none) (by kernel_rfl) (by kernel_rfl) (fun kS G hk => by cases hk) (fun kS s y G hk => by cases hk) ?_
          simp only [List.take_succ_cons, List.take_zero, List.take_nil, List.drop_succ_cons, List.drop_zero, List.drop_nil]
          refine mx_calm rfl (want rfl) (fun u1 eu1 fu1 => rn_fieldAddr fa_24_2 (A1.at 2 rfl rfl)) ?_
          refine mx_calm rfl (want rfl) (fun u2 eu2 fu2 => rn_load1Blk ag_22 rfl (((B1.ext Eb2).ext EL1).ext ((ext_drawn _).trans' eu2)) rfl) ?_
          refine mx_calm rfl (want rfl) (fun u3 eu3 fu3 => mv_int hs1_5) ?_
          refine mx_calm rfl (want rfl) (fun u4 eu4 fu4 => rn_index _ Tryd.underlying22 sz_49 rfl rfl rfl (by omega)) ?_
          refine mx_calm rfl (want rfl) (fun u5 eu5 fu5 => rn_load1 ag_49 rfl ((F3.ext ((ext_drawn _).trans' eu5)).cell (fun h => h) hcx)) ?_
          refine mx_calm rfl (want rfl) (fun u6 eu6 fu6 => rn_fieldAddr fa_24_2 (A1.at 3 rfl rfl)) ?_
          refine mx_calm rfl (want rfl) (fun u7 eu7 fu7 => rn_load1Blk ag_22 rfl ((B2.ext EL1).ext ((ext_drawn _).trans' eu7)) rfl) ?_
          refine mx_calm rfl (want rfl) (fun u8 eu8 fu8 => mv_int hs1_5) ?_
          refine mx_calm rfl (want rfl) (fun u9 eu9 fu9 => rn_index _ Tryd.underlying22 sz_49 rfl rfl rfl (by omega)) ?_
          refine mx_calm rfl (want rfl) (fun u10 eu10 fu10 => rn_load1 ag_49 rfl ((F3.ext ((ext_drawn _).trans' eu10)).cell (fun h => h) hcy)) ?_
          refine mx_nil (fun w4 E1' H1 HS => ?_)
          have E1 := (ext_drawn _).trans' E1'
          have F4 := F3.ext E1
          have hz1 := E1.size
          refine lx_call (want rfl) (ent_func cf_34 (argsC (t_slice rfl) (argsC (t_slice rfl) args0))) (packets_ct x y _ _ _ _ _ _ w4 (hpx.fr (pk_stab _) F4 (fun _ _ h => h)) (hpy.fr (pk_stab _) F4 (fun _ _ h => h)) (hB.get hy)) ?_
          rintro _ w5 E2 rfl
          have F5 := F4.ext E2
          have hz2 := E2.size
          refine lx_split (fun hne => ?_) (fun hne => ?_)
          ·
            refine lx_value (want rfl) (rn_not rfl) ?_
            refine lx_nil ?_
            refine wk_cond_f rfl ?_
            refine wk_skip ?_
            refine wk_region ?_
            refine lx_value (want rfl) (mv_int hs1_5) ?_
            refine lx_value (want rfl) (rn_add rfl rfl (by omega)) ?_
            refine lx_value (want rfl) (as_int rfl) ?_
            refine lx_nil ?_
            exact ⟨rfl, ((((((((((((((((((((A1.up rfl _).up rfl _).up rfl _).up rfl _).up rfl _).up rfl _).up rfl _).up rfl _).up rfl _).up rfl _).up rfl _).up rfl _).up rfl _).up rfl _).up rfl _).up rfl _).up rfl _).up rfl _).up rfl _).up rfl _), (Fr.ext (Fr.ext EL1 E1) E2), _, (by omega), i + 1, rfl, rfl, by omega, (eqs_step hq hx hy (by simpa using hne))⟩
          ·
            refine lx_value (want rfl) (rn_not rfl) ?_
            refine lx_nil ?_
            refine wk_cond_t rfl ?_
            refine wk_seq ?_
            refine wk_region ?_
            refine lx_value (want rfl) (as_bool rfl) ?_
            refine lx_nil ?_
            refine wk_ret ?_
            refine retR1 Tryd.results19 (.tmp (t_bool rfl)) F5 ?_
            exact no_dec (fun h => eqs_ne hx hy (by simpa using hne) h.2.2)
        ·
          refine lx_nil ?_
          refine wk_cond_f rfl ?_
          refine wk_exit ?_
          refine wk_seq ?_
          refine wk_region ?_
          refine lx_value (want rfl) (as_bool rfl) ?_
          refine lx_nil ?_
          refine wk_ret ?_
          refine retR1 Tryd.results19 (.tmp (t_bool rfl)) F3 ?_
          exact yes_dec ⟨by omega, by omega, eqs_end hq (by omega) hlt⟩

theorem put_ct (b dim : Nat) (r : Int) (s : Option Addr) (c : Nat) (T : List (TE Pk)) (L : List (List Pk)) (hm : T.map (·.2.2) = L) (hd : dim ≤ 3) (x y : Nat) (hx : x < 8) (hy : y ≤ 3) (l : List Pk) (hl : L[x * (dim + 1) + y]? = some l) (p1 p2 p3 : Int) (hl8 : l.length ≤ 1048576) (w0 : World) (hC : CubeP w0 b dim r s c T) :
    CT Tryd.prog 56 [.pointer (some ⟨b, 0, none⟩), .agg #[.int .i64 p1, .int .i64 p2, .int .i64 p3], .agg #[.int .i64 x, .int .i64 y]] w0 (tb s T) (fun v w => v = .tuple #[] ∧ ∃ T', CubeP w b dim r s c T' ∧ T'.map (·.2.2) = L.set (x * (dim + 1) + y) (l ++ [(p1, p2, p3)]) ∧ Grown w0 s T T') := by
  have hbl := hC.blk.lt
  obtain ⟨⟨sE, cE, l⟩, he, hel⟩ := tab_at hm hl
  dsimp only at hel
  subst hel
  obtain ⟨bT, oT, hs, hcT⟩ := hC.tab.get he
  subst hs
  have F0 := Fr.refl (tb (some (⟨bT, oT, none⟩ : Addr)) T) w0
  have tge : ∀ k, (tb (some (⟨bT, oT, none⟩ : Addr)) T) k → (tb (some (⟨bT, oT, none⟩ : Addr)) T) k ∨ w0.heap.size ≤ k := fun k h => .inl h
  refine ct_body Tryd.func56 rfl Tryd.ntmps56 (Nat.le_of_ble_eq_true rfl) ?_
  refine wk_seq ?_
  refine wk_region ?_
  refine lx_new (want rfl) (rn_box (t_agg rfl)) ?_
  intro b21 w1 hb21 Eb21 B21 hlb21
  have F1 := F0.ext Eb21
  have hzb21 := Eb21.size
  have nb1 : ∀ k, tb (some (⟨bT, oT, none⟩ : Addr)) T k → k ≠ b21 := fun k hk => by have := (hC.tab).lt hk; omega
  refine lx_new (want rfl) (rn_box (t_agg rfl)) ?_
  intro b22 w2 hb22 Eb22 B22 hlb22
  have F2 := F1.ext Eb22
  have hzb22 := Eb22.size
  have nb2 : ∀ k, tb (some (⟨bT, oT, none⟩ : Addr)) T k → k ≠ b22 := fun k hk => by have := (hC.tab).lt hk; omega
  refine lx_nil ?_
  refine wk_seq ?_
  refine wk_mix 4 (fun _ => .none) (by kernel_rfl) (by kernel_rfl) (fun kS G hk => by cases hk) (fun kS s y G hk => by cases hk) ?_
  simp only [List.take_succ_cons, List.take_zero, List.take_nil, List.drop_succ_cons, List.drop_zero, List.drop_nil]
  refine mx_calm rfl (want rfl) (fun u1 eu1 fu1 => mv_pointer rfl) ?_
  refine mx_calm rfl (want rfl) (fun u2 eu2 fu2 => rn_nilCheck rfl) ?_
  refine mx_calm rfl (want rfl) (fun u3 eu3 fu3 => rn_loadBlk ag_76 sz_76 rfl (((hC.blk.ext Eb21).ext Eb22).ext ((ext_drawn _).trans' eu3)) rfl rfl) ?_
  refine mx_calm rfl (want rfl) (fun u4 eu4 fu4 => rn_loadBlk ag_82 sz_82 rfl (B22.ext ((ext_drawn _).trans' eu4)) rfl rfl) ?_
  refine mx_nil (fun w3 E1' H1 HS => ?_)
  have E1 := (ext_drawn _).trans' E1'
  have F3 := F2.ext E1
  have hz1 := E1.size
  refine lx_call (want rfl) (ent_func cf_85 (argsC (t_agg rfl) (argsC (t_agg rfl) args0))) (cbuffer_ct dim r _ _ _ hd x y hx hy w3) ?_
  rintro _ w4 E2 rfl
  have F4 := F3.ext E2
  have hz2 := E2.size
  refine lx_value (want rfl) (as_int rfl) ?_
  refine lx_nil ?_
  obtain ⟨bU, oU, hsU, hcU⟩ := (((((hC.tab.ext Eb21).ext Eb22).ext E1).ext E2)).get he
  injection hsU with hsU
  injection hsU with hsU1 hsU2
  subst hsU1
  subst hsU2
  have hTo := ((((hC.tab.ext Eb21).ext Eb22).ext E1).ext E2)
  have hOw := hTo.own _ _ he
  have hSl : ∀ k, (ob sE) k → k < w4.heap.size := fun k h => (((((hC.tab.ext Eb21).ext Eb22).ext E1).ext E2)).lt (.inr ⟨_, _, he, h⟩)
  refine wk_mixA 17 16 (ob sE) (fun kS => match kS with | 15 => .any (fun I v w => ∃ b, v = .slice (some ⟨b, 0, none⟩) 1 1 ∧ w4.heap.size ≤ b ∧ (I.1 ≤ b ∧ b < I.2) ∧ Blk w b [.int .i64 p1, .int .i64 p2, .int .i64 p3] 41) | 16 => .any (fun I v w => ∃ s c, v = .slice s (l ++ [(((p1 : Int), (p2 : Int), (p3 : Int)) : Pk)]).length c ∧ OwnS w 41 3 s (l ++ [(((p1 : Int), (p2 : Int), (p3 : Int)) : Pk)]).length c ((l ++ [(((p1 : Int), (p2 : Int), (p3 : Int)) : Pk)]).flatMap pkC) ∧ ∀ k, ob s k → (ob sE k ∨ w4.heap.size ≤ k)) | _ => .none) (by kernel_rfl) (by kernel_rfl) (by intro kS G hk; (try dsimp only at hk); (split at hk) <;> first | (cases hk; done) | (injection hk with hk; subst hk; exact ⟨by intro j hkj I v w w' hR hG; first | exact hG | (obtain ⟨b, h1, h2, hI, h3⟩ := hG; exact ⟨b, h1, h2, hI, h3.fr (mS hR) (fun hs => by have := hSl _ hs; omega)⟩) | (obtain ⟨s, c, h1, h2, h3⟩ := hG; exact ⟨s, c, h1, h2.ext (mT hkj hR), h3⟩), fun ⟨_, _, _, _, hs⟩ => by (try dsimp only at hs); split at hs <;> cases hs⟩)) (by intro kS s y G hk; (try dsimp only at hk); split at hk <;> cases hk) ?_
  simp only [List.take_succ_cons, List.take_zero, List.take_nil, List.drop_succ_cons, List.drop_zero, List.drop_nil]
  refine mx_calm rfl (want rfl) (fun u5 eu5 fu5 => mv_pointer rfl) ?_
  refine mx_calm rfl (want rfl) (fun u6 eu6 fu6 => rn_nilCheck rfl) ?_
  refine mx_calm rfl (want rfl) (fun u7 eu7 fu7 => rn_fieldAddr fa_76_0 rfl) ?_
  refine mx_calm rfl (want rfl) (fun u8 eu8 fu8 => rn_fieldAddr fa_24_2 rfl) ?_
  refine mx_calm rfl (want rfl) (fun u9 eu9 fu9 => rn_load1Blk ag_22 rfl (((((hC.blk.ext Eb21).ext Eb22).ext E1).ext E2).fr (mD (by decide) eu9) (fun h => hC.ne _ (.inr ⟨_, _, he, h⟩) rfl)) rfl) ?_
  refine mx_calm rfl (want rfl) (fun u10 eu10 fu10 => mv_int rfl) ?_
  refine mx_calm rfl (want rfl) (fun u11 eu11 fu11 => mv_pointer rfl) ?_
  refine mx_calm rfl (want rfl) (fun u12 eu12 fu12 => rn_nilCheck rfl) ?_
  refine mx_calm rfl (want rfl) (fun u13 eu13 fu13 => rn_fieldAddr fa_76_0 rfl) ?_
  refine mx_calm rfl (want rfl) (fun u14 eu14 fu14 => rn_fieldAddr fa_24_2 rfl) ?_
  refine mx_calm rfl (want rfl) (fun u15 eu15 fu15 => rn_load1Blk ag_22 rfl (((((hC.blk.ext Eb21).ext Eb22).ext E1).ext E2).fr (mD (by decide) eu15) (fun h => hC.ne _ (.inr ⟨_, _, he, h⟩) rfl)) rfl) ?_
  refine mx_calm rfl (want rfl) (fun u16 eu16 fu16 => mv_int rfl) ?_
  refine mx_calm rfl (want rfl) (fun u17 eu17 fu17 => rn_index (x * (dim + 1) + y) Tryd.underlying22 sz_49 rfl rfl rfl (List.getElem?_eq_some_iff.1 he).1) ?_
  refine mx_calm rfl (want rfl) (fun u18 eu18 fu18 => rn_load1 ag_49 rfl ((mD (by decide) eu18).cell (fun h => hTo.sep _ _ he _ h ⟨_, _, rfl⟩) hcU)) ?_
  refine mx_calm rfl (want rfl) (fun u19 eu19 fu19 => rn_loadBlk ag_41 sz_41 rfl ((((B21.ext Eb22).ext E1).ext E2).fr (mD (by decide) eu19) (fun h => nb1 _ (.inr ⟨_, _, he, h⟩) rfl)) rfl rfl) ?_
  refine mx_any rfl rfl (want rfl) (fun u20 eu20 fu20 => (do_newS2 (rn_bslice (xs := [.tmp 26]) Tryd.underlying49 sz_41 ze_41 rfl (argsC (t_agg rfl) args0) (CL.cons rfl rfl CL.nil) rfl (Nat.le_of_ble_eq_true rfl)) (show _ ≤ _ from ((mD (by decide) eu20)).size)).mono (fun v w' h => ⟨(mE (by decide) h.1), h.2⟩)) (fun I27 v27 => ?_)
  refine mx_any rfl rfl (want rfl) (fun u21 eu21 fu21 => by obtain ⟨bS, rfl, hbS, _, hBS⟩ := fu21 27 _ rfl (show (27 : Nat) ∈ _ from by decide); exact do_append 24 Tryd.underlying49 ti_41 (by decide) rfl (by decide) rfl rfl (hOw.ext (mC eu21)) (Src.blk hBS rfl rfl) (show l.length + 1 ≤ 1073741824 by omega) (fun sA cA wA AP => ⟨(mF AP.fr), ⟨sA, cA, by simp, by have h := AP.own; rw [List.length_append, List.flatMap_append]; exact h, fun k hk => (AP.blk k hk).elim .inl (fun h => .inr (Nat.le_trans (mC eu21).size h))⟩⟩)) (fun I28 v28 => ?_)
  refine mx_nil (fun w5 E3' H2 HS => ?_)
  have E3 := mG E3'
  have F5 := F4.new' E3 (fun k h => tge k (.inr ⟨_, _, he, h⟩))
  have hz3 := E3.size
  have hI28 := (HS.1 28 _ rfl).2
  have hI27 := (HS.1 27 _ rfl).2
  have hX28_27 := HS.2 28 _ 27 _ rfl rfl (show (28 : Nat) ≠ 27 from by decide)
  simp only at hI28
  simp only at hI27
  simp only at hX28_27
  have g28 := H2 28 _ rfl
  obtain ⟨sq1, cq1, rfl, hO1, hI1⟩ := g28
  have g27 := H2 27 _ rfl
  refine lx_value (want rfl) (rn_index (x * (dim + 1) + y) Tryd.underlying22 sz_49 rfl rfl rfl (List.getElem?_eq_some_iff.1 he).1) ?_
  refine lx_ownset (want rfl) sz_49 rfl (t_slice rfl) rfl rfl rfl (hTo.out.fr E3 (fun k hk hs => hTo.sep _ _ he k hs hk)) (List.getElem?_eq_some_iff.1 he).1 ?_
  intro w6 E4' HO2
  have E4 : Fr (ob (some (⟨bT, oT, none⟩ : Addr))) _ _ := E4'.mono (fun i _ hi => ⟨_, _, by subst hi; rfl⟩)
  have F6 := F5.new' E4 (fun k h => tge k (.inl h))
  have hz4 := E4.size
  obtain ⟨tw2, ti2⟩ := Tab.set (e' := (sq1, cq1, l ++ [(((p1 : Int), (p2 : Int), (p3 : Int)) : Pk)])) hTo he E3 hO1 hI1 E4 HO2
  have tg1 : ∀ k, tb (some (⟨bT, oT, none⟩ : Addr)) (T.set (x * (dim + 1) + y) (sq1, cq1, l ++ [(((p1 : Int), (p2 : Int), (p3 : Int)) : Pk)])) k → (tb (some (⟨bT, oT, none⟩ : Addr)) T) k ∨ w0.heap.size ≤ k := fun k hk => (ti2 k hk).elim (tge k) (fun h => .inr (by omega))
  have tn1_1 : ∀ k, tb (some (⟨bT, oT, none⟩ : Addr)) (T.set (x * (dim + 1) + y) (sq1, cq1, l ++ [(((p1 : Int), (p2 : Int), (p3 : Int)) : Pk)])) k → k ≠ b := fun k hk => (ti2 k hk).elim (hC.ne k) (fun h => by have := (hC.blk).lt; omega)
  have tn1_21 : ∀ k, tb (some (⟨bT, oT, none⟩ : Addr)) (T.set (x * (dim + 1) + y) (sq1, cq1, l ++ [(((p1 : Int), (p2 : Int), (p3 : Int)) : Pk)])) k → k ≠ b21 := fun k hk => (ti2 k hk).elim (nb1 k) (fun h => by have := (B21).lt; omega)
  have tn1_22 : ∀ k, tb (some (⟨bT, oT, none⟩ : Addr)) (T.set (x * (dim + 1) + y) (sq1, cq1, l ++ [(((p1 : Int), (p2 : Int), (p3 : Int)) : Pk)])) k → k ≠ b22 := fun k hk => (ti2 k hk).elim (nb2 k) (fun h => by have := (B22).lt; omega)
  refine lx_nil ?_
  (try simp only [thenK, blockK, if_true])
  refine retN ?_
  refine ret0 Tryd.results56 F6 ?_
  exact ⟨rfl, _, ⟨by rw [List.length_set]; exact ((((((hC.blk.ext Eb21).ext Eb22).ext E1).ext E2).fr E3 (fun h => hC.ne _ (.inr ⟨_, _, he, h⟩) rfl)).fr E4 (fun h => hC.ne _ (.inl h) rfl)), tw2, tn1_1⟩, set_map hm _ _, tg1⟩

theorem take_ct (b dim : Nat) (r : Int) (s : Option Addr) (c : Nat) (T : List (TE Pk)) (L : List (List Pk)) (hm : T.map (·.2.2) = L) (hd : dim ≤ 3) (x y : Nat) (hx : x < 8) (hy : y ≤ 3) (p : Pk) (q : List Pk) (hl : L[x * (dim + 1) + y]? = some (p :: q)) (w0 : World) (hC : CubeP w0 b dim r s c T) :
    CT Tryd.prog 87 [.pointer (some ⟨b, 0, none⟩), .agg #[.int .i64 x, .int .i64 y]] w0 (tb s T) (fun v w => v = .agg #[.int .i64 p.1, .int .i64 p.2.1, .int .i64 p.2.2] ∧ ∃ T', CubeP w b dim r s c T' ∧ T'.map (·.2.2) = L.set (x * (dim + 1) + y) q ∧ Grown w0 s T T') := by
  have hbl := hC.blk.lt
  obtain ⟨⟨sE, cE, l⟩, he, hel⟩ := tab_at hm hl
  dsimp only at hel
  subst hel
  obtain ⟨bT, oT, hs, hcT⟩ := hC.tab.get he
  subst hs
  have hpx : PkS (fun _ => True) w0 sE (p :: q) := (hC.tab.own _ _ he).sl (by decide) rfl (fun _ _ => rfl) (fun _ _ => trivial)
  obtain ⟨bp, op, hsp, _, hcp⟩ := hpx 0 p rfl
  (try dsimp only at hsp)
  subst hsp
  have hbT : bT < w0.heap.size := World.block_lt_of_cell? w0 _ hcT
  have hbp : bp < w0.heap.size := World.block_lt_of_cell? w0 _ (hcp 0 _ rfl)
  have F0 := Fr.refl (tb (some (⟨bT, oT, none⟩ : Addr)) T) w0
  have tge : ∀ k, (tb (some (⟨bT, oT, none⟩ : Addr)) T) k → (tb (some (⟨bT, oT, none⟩ : Addr)) T) k ∨ w0.heap.size ≤ k := fun k h => .inl h
  refine ct_body Tryd.func87 rfl Tryd.ntmps87 (Nat.le_of_ble_eq_true rfl) ?_
  refine wk_seq ?_
  refine wk_region ?_
  refine lx_new (want rfl) (rn_box (t_agg rfl)) ?_
  intro b21 w1 hb21 Eb21 B21 hlb21
  have F1 := F0.ext Eb21
  have hzb21 := Eb21.size
  have nb1 : ∀ k, tb (some (⟨bT, oT, none⟩ : Addr)) T k → k ≠ b21 := fun k hk => by have := (hC.tab).lt hk; omega
  refine lx_new (want rfl) (rn_alloc ze_41) ?_
  intro b22 w2 hb22 Eb22 B22 hlb22
  have F2 := F1.ext Eb22
  have hzb22 := Eb22.size
  have nb2 : ∀ k, tb (some (⟨bT, oT, none⟩ : Addr)) T k → k ≠ b22 := fun k hk => by have := (hC.tab).lt hk; omega
  refine lx_nil ?_
  refine wk_seq ?_
  refine wk_mix 10 (fun kS => match kS with | 9 => .val (.int .i64 (x * (dim + 1) + y : Nat)) | _ => .none) (by kernel_rfl) (by kernel_rfl) (by intro kS G hk; (try dsimp only at hk); (split at hk) <;> first | (cases hk; done) | (injection hk with hk; subst hk; exact ⟨by intro j hkj I v w w' hR hG; first | exact hG, fun ⟨_, _, _, _, hs⟩ => by (try dsimp only at hs); split at hs <;> cases hs⟩)) (by intro kS s y G hk; (try dsimp only at hk); split at hk <;> cases hk) ?_
  simp only [List.take_succ_cons, List.take_zero, List.take_nil, List.drop_succ_cons, List.drop_zero, List.drop_nil]
  refine mx_calm rfl (want rfl) (fun u1 eu1 fu1 => mv_pointer rfl) ?_
  refine mx_calm rfl (want rfl) (fun u2 eu2 fu2 => rn_nilCheck rfl) ?_
  refine mx_calm rfl (want rfl) (fun u3 eu3 fu3 => rn_fieldAddr fa_76_0 rfl) ?_
  refine mx_calm rfl (want rfl) (fun u4 eu4 fu4 => rn_fieldAddr fa_24_2 rfl) ?_
  refine mx_calm rfl (want rfl) (fun u5 eu5 fu5 => rn_load1Blk ag_22 rfl (((hC.blk.ext Eb21).ext Eb22).ext ((ext_drawn _).trans' eu5)) rfl) ?_
  refine mx_calm rfl (want rfl) (fun u6 eu6 fu6 => mv_pointer rfl) ?_
  refine mx_calm rfl (want rfl) (fun u7 eu7 fu7 => rn_nilCheck rfl) ?_
  refine mx_calm rfl (want rfl) (fun u8 eu8 fu8 => rn_loadBlk ag_76 sz_76 rfl (((hC.blk.ext Eb21).ext Eb22).ext ((ext_drawn _).trans' eu8)) rfl rfl) ?_
  refine mx_calm rfl (want rfl) (fun u9 eu9 fu9 => rn_loadBlk ag_82 sz_82 rfl ((B21.ext Eb22).ext ((ext_drawn _).trans' eu9)) rfl rfl) ?_
  refine mx_val rfl (want rfl) (fun u10 eu10 fu10 => do_call (ent_func cf_85 (argsC (t_agg rfl) (argsC (t_agg rfl) args0))) (cbuffer_ct dim r _ _ _ hd x y hx hy u10) (fun _ _ E h => ⟨E, h⟩)) ?_
  refine mx_nil (fun w3 E1' H1 HS => ?_)
  have E1 := (ext_drawn _).trans' E1'
  have F3 := F2.ext E1
  have hz1 := E1.size
  refine lx_value (want rfl) (rn_index (x * (dim + 1) + y) Tryd.underlying22 sz_49 rfl rfl rfl (List.getElem?_eq_some_iff.1 he).1) ?_
  refine lx_value (want rfl) (as_pointer rfl) ?_
  refine lx_nil ?_
  refine wk_seq ?_
  refine wk_region ?_
  refine lx_value (want rfl) (mv_pointer rfl) ?_
  refine lx_value (want rfl) (rn_nilCheck rfl) ?_
  refine lx_value (want rfl) (rn_load1 ag_49 rfl ((Fr.ext (Fr.ext (Fr.ext (Fr.refl no w0) Eb21) Eb22) E1).cell (fun h => by first | exact h | (dsimp only at h; omega)) hcT)) ?_
  refine lx_value (want rfl) (rn_index 0 Tryd.underlying49 sz_41 rfl rfl rfl (by simp)) ?_
  refine lx_value (want rfl) (rn_load3 ag_41 sz_41 rfl ((Fr.ext (Fr.ext (Fr.ext (Fr.refl no w0) Eb21) Eb22) E1).cell (fun h => by first | exact h | (dsimp only at h; omega)) (hcp 0 _ rfl)) ((Fr.ext (Fr.ext (Fr.ext (Fr.refl no w0) Eb21) Eb22) E1).cell (fun h => by first | exact h | (dsimp only at h; omega)) (hcp 1 _ rfl)) ((Fr.ext (Fr.ext (Fr.ext (Fr.refl no w0) Eb21) Eb22) E1).cell (fun h => by first | exact h | (dsimp only at h; omega)) (hcp 2 _ rfl))) ?_
  refine lx_new (want rfl) (rn_alloc ze_41) ?_
  intro b23 w4 hb23 Eb23 B23 hlb23
  have F4 := F3.ext Eb23
  have hzb23 := Eb23.size
  have nb3 : ∀ k, tb (some (⟨bT, oT, none⟩ : Addr)) T k → k ≠ b23 := fun k hk => by have := (hC.tab).lt hk; omega
  refine lx_set (want rfl) sz_41 rfl (t_agg rfl) rfl rfl rfl B23 (Nat.le_of_ble_eq_true rfl) ?_
  intro w5 Es1 Bs1
  have F5 := F4.set Es1 (by omega)
  have hzs1 := Es1.size
  refine lx_nil ?_
  refine wk_seq ?_
  refine wk_region ?_
  refine lx_value (want rfl) (mv_pointer rfl) ?_
  refine lx_value (want rfl) (mv_pointer rfl) ?_
  refine lx_value (want rfl) (rn_nilCheck rfl) ?_
  refine lx_value (want rfl) (rn_load1 ag_49 rfl ((Fr.trans (Fr.ext (Fr.ext (Fr.ext (Fr.ext (Fr.refl (fun k => k = b23) w0) Eb21) Eb22) E1) Eb23) Es1 (fun k _ h => h)).cell (fun h => by first | exact h | (dsimp only at h; omega)) hcT)) ?_
  refine lx_value (want rfl) (rn_sliceFrom 1 Tryd.underlying49 sz_41 rfl rfl rfl (by simp)) ?_
  refine lx_value (want rfl) (rn_nilCheck rfl) ?_
  refine lx_ownset (want rfl) sz_49 rfl (t_slice rfl) rfl rfl rfl ((((((hC.tab.ext Eb21).ext Eb22).ext E1).ext Eb23).fr Es1 (fun k hk h => nb3 k hk h))).out (List.getElem?_eq_some_iff.1 he).1 ?_
  intro w6 E2' HO1
  have E2 : Fr (ob (some (⟨bT, oT, none⟩ : Addr))) _ _ := E2'.mono (fun i _ hi => ⟨_, _, by subst hi; rfl⟩)
  have F6 := F5.new' E2 (fun k h => tge k (.inl h))
  have hz2 := E2.size
  obtain ⟨tw1, ti1⟩ := Tab.set (e' := ((dropAt (some ⟨bp, op, none⟩) 1 cE 3, cE - 1, q) : TE Pk)) (((((hC.tab.ext Eb21).ext Eb22).ext E1).ext Eb23).fr Es1 (fun k hk h => nb3 k hk h)) he (Fr.refl _ _) ((((((((hC.tab.ext Eb21).ext Eb22).ext E1).ext Eb23).fr Es1 (fun k hk h => nb3 k hk h))).own _ _ he).drop (k := 1) (by simp)) (fun k h => .inl (ob_drop h)) E2 HO1
  have tg1 : ∀ k, tb (some (⟨bT, oT, none⟩ : Addr)) (T.set (x * (dim + 1) + y) ((dropAt (some ⟨bp, op, none⟩) 1 cE 3, cE - 1, q) : TE Pk)) k → (tb (some (⟨bT, oT, none⟩ : Addr)) T) k ∨ w0.heap.size ≤ k := fun k hk => (ti1 k hk).elim (tge k) (fun h => .inr (by omega))
  have tn1_1 : ∀ k, tb (some (⟨bT, oT, none⟩ : Addr)) (T.set (x * (dim + 1) + y) ((dropAt (some ⟨bp, op, none⟩) 1 cE 3, cE - 1, q) : TE Pk)) k → k ≠ b := fun k hk => (ti1 k hk).elim (hC.ne k) (fun h => by have := (hC.blk).lt; omega)
  have tn1_21 : ∀ k, tb (some (⟨bT, oT, none⟩ : Addr)) (T.set (x * (dim + 1) + y) ((dropAt (some ⟨bp, op, none⟩) 1 cE 3, cE - 1, q) : TE Pk)) k → k ≠ b21 := fun k hk => (ti1 k hk).elim (nb1 k) (fun h => by have := (B21).lt; omega)
  have tn1_22 : ∀ k, tb (some (⟨bT, oT, none⟩ : Addr)) (T.set (x * (dim + 1) + y) ((dropAt (some ⟨bp, op, none⟩) 1 cE 3, cE - 1, q) : TE Pk)) k → k ≠ b22 := fun k hk => (ti1 k hk).elim (nb2 k) (fun h => by have := (B22).lt; omega)
  have tn1_23 : ∀ k, tb (some (⟨bT, oT, none⟩ : Addr)) (T.set (x * (dim + 1) + y) ((dropAt (some ⟨bp, op, none⟩) 1 cE 3, cE - 1, q) : TE Pk)) k → k ≠ b23 := fun k hk => (ti1 k hk).elim (nb3 k) (fun h => by have := (Bs1).lt; omega)
  refine lx_nil ?_
  refine wk_seq ?_
  refine wk_region ?_
  refine lx_value (want rfl) (rn_loadBlk ag_41 sz_41 rfl (Bs1.fr E2 (fun h => nb3 _ (.inl h) rfl)) rfl rfl) ?_
  refine lx_set (want rfl) sz_41 rfl (t_agg rfl) rfl rfl rfl ((((B22.ext E1).ext Eb23).ne Es1 (by omega)).fr E2 (fun h => nb2 _ (.inl h) rfl)) (Nat.le_of_ble_eq_true rfl) ?_
  intro w7 Es2 Bs2
  have F7 := F6.set Es2 (by omega)
  have hzs2 := Es2.size
  refine lx_nil ?_
  refine wk_ret ?_
  refine retR1 Tryd.results87 (.cell rfl (run_loadVar_blk ag_41 sz_41 Bs2 rfl rfl)) F7 ?_
  exact ⟨rfl, _, ⟨by rw [List.length_set]; exact (((((((hC.blk.ext Eb21).ext Eb22).ext E1).ext Eb23).ne Es1 (by omega)).fr E2 (fun h => hC.ne _ (.inl h) rfl)).ne Es2 (by omega)), (tw1.fr Es2 (fun k hk h => tn1_22 k hk h)), tn1_1⟩, set_map hm _ _, tg1⟩

theorem refnew_ct (d r : Int) (w0 : World) :
    CT Tryd.prog 16 [.int .i64 d, .int .i64 r] w0 no (fun v w => NewQ w0.heap.size d r v w) := by
  have F0 := Fr.refl no w0
  refine ct_body Tryd.func16 rfl Tryd.ntmps16 (Nat.le_of_ble_eq_true rfl) ?_
  refine wk_seq ?_
  refine wk_region ?_
  refine lx_new (want rfl) (rn_alloc ze_24) ?_
  intro b1 w1 hb1 Eb1 B1 hlb1
  have F1 := F0.ext Eb1
  have hzb1 := Eb1.size
  refine lx_value (want rfl) (as_int rfl) ?_
  refine lx_nil ?_
  refine wk_seq ?_
  refine wk_seq ?_
  refine wk_region ?_
  refine lx_value (want rfl) (mv_int rfl) ?_
  refine lx_value (want rfl) (rn_lss rfl rfl) ?_
  refine lx_dec (fun h1 => ?_) (fun h1 => ?_)
  ·
    refine lx_value (want rfl) (mv_bool rfl) ?_
    refine lx_skip (want_if (j := 2) (d := 8) (x := false) (y := true) rfl rfl (by decide) rfl) ?_
    refine lx_skip (want_if (j := 2) (d := 8) (x := false) (y := true) rfl rfl (by decide) rfl) ?_
    refine lx_value (want rfl) (pick_t rfl rfl) ?_
    refine lx_value (want rfl) (mv_bool rfl) ?_
    refine lx_skip (want_if (j := 6) (d := 12) (x := false) (y := true) rfl rfl (by decide) rfl) ?_
    refine lx_skip (want_if (j := 6) (d := 12) (x := false) (y := true) rfl rfl (by decide) rfl) ?_
    refine lx_value (want rfl) (pick_t rfl rfl) ?_
    refine lx_value (want rfl) (mv_bool rfl) ?_
    refine lx_skip (want_if (j := 10) (d := 16) (x := false) (y := true) rfl rfl (by decide) rfl) ?_
    refine lx_skip (want_if (j := 10) (d := 16) (x := false) (y := true) rfl rfl (by decide) rfl) ?_
    refine lx_value (want rfl) (pick_t rfl rfl) ?_
    refine lx_nil ?_
    refine wk_cond_t rfl ?_
    refine wk_seq ?_
    refine wk_region ?_
    refine lx_value (want rfl) (rn_build0  (fun w => bd_24  w)) ?_
    refine lx_set (want rfl) sz_24 rfl (t_agg rfl) rfl rfl rfl B1 (Nat.le_of_ble_eq_true rfl) ?_
    intro w2 Es1 Bs1
    have F2 := F1.set Es1 (by omega)
    have hzs1 := Es1.size
    refine lx_value (want rfl) (as_int rfl) ?_
    refine lx_nil ?_
    refine wk_ret ?_
    refine retR2 Tryd.results16 (.cell rfl (run_loadVar_blk ag_24 sz_24 Bs1 rfl rfl)) (.tmp (t_int rfl)) F2 ?_
    exact new_bad (by omega)
  ·
    refine lx_value (want rfl) (mv_bool rfl) ?_
    refine lx_value (want_if (j := 2) (d := 8) (x := false) (y := false) rfl rfl (by decide) rfl) (mv_int rfl) ?_
    refine lx_value (want_if (j := 2) (d := 8) (x := false) (y := false) rfl rfl (by decide) rfl) (rn_gtr rfl rfl) ?_
    refine lx_dec (fun h2 => ?_) (fun h2 => ?_)
    ·
      refine lx_value (want rfl) (pick_f rfl rfl) ?_
      refine lx_value (want rfl) (mv_bool rfl) ?_
      refine lx_skip (want_if (j := 6) (d := 12) (x := false) (y := true) rfl rfl (by decide) rfl) ?_
      refine lx_skip (want_if (j := 6) (d := 12) (x := false) (y := true) rfl rfl (by decide) rfl) ?_
      refine lx_value (want rfl) (pick_t rfl rfl) ?_
      refine lx_value (want rfl) (mv_bool rfl) ?_
      refine lx_skip (want_if (j := 10) (d := 16) (x := false) (y := true) rfl rfl (by decide) rfl) ?_
      refine lx_skip (want_if (j := 10) (d := 16) (x := false) (y := true) rfl rfl (by decide) rfl) ?_
      refine lx_value (want rfl) (pick_t rfl rfl) ?_
      refine lx_nil ?_
      refine wk_cond_t rfl ?_
      refine wk_seq ?_
      refine wk_region ?_
      refine lx_value (want rfl) (rn_build0  (fun w => bd_24  w)) ?_
      refine lx_set (want rfl) sz_24 rfl (t_agg rfl) rfl rfl rfl B1 (Nat.le_of_ble_eq_true rfl) ?_
      intro w2 Es2 Bs2
      have F3 := F1.set Es2 (by omega)
      have hzs2 := Es2.size
      refine lx_value (want rfl) (as_int rfl) ?_
      refine lx_nil ?_
      refine wk_ret ?_
      refine retR2 Tryd.results16 (.cell rfl (run_loadVar_blk ag_24 sz_24 Bs2 rfl rfl)) (.tmp (t_int rfl)) F3 ?_
      exact new_bad (by omega)
    ·
      refine lx_value (want rfl) (pick_f rfl rfl) ?_
      refine lx_value (want rfl) (mv_bool rfl) ?_
      refine lx_value (want_if (j := 6) (d := 12) (x := false) (y := false) rfl rfl (by decide) rfl) (mv_int rfl) ?_
      refine lx_value (want_if (j := 6) (d := 12) (x := false) (y := false) rfl rfl (by decide) rfl) (rn_lss rfl rfl) ?_
      refine lx_dec (fun h3 => ?_) (fun h3 => ?_)
      ·
        refine lx_value (want rfl) (pick_f rfl rfl) ?_
        refine lx_value (want rfl) (mv_bool rfl) ?_
        refine lx_skip (want_if (j := 10) (d := 16) (x := false) (y := true) rfl rfl (by decide) rfl) ?_
        refine lx_skip (want_if (j := 10) (d := 16) (x := false) (y := true) rfl rfl (by decide) rfl) ?_
        refine lx_value (want rfl) (pick_t rfl rfl) ?_
        refine lx_nil ?_
        refine wk_cond_t rfl ?_
        refine wk_seq ?_
        refine wk_region ?_
        refine lx_value (want rfl) (rn_build0  (fun w => bd_24  w)) ?_
        refine lx_set (want rfl) sz_24 rfl (t_agg rfl) rfl rfl rfl B1 (Nat.le_of_ble_eq_true rfl) ?_
        intro w2 Es3 Bs3
        have F4 := F1.set Es3 (by omega)
        have hzs3 := Es3.size
        refine lx_value (want rfl) (as_int rfl) ?_
        refine lx_nil ?_
        refine wk_ret ?_
        refine retR2 Tryd.results16 (.cell rfl (run_loadVar_blk ag_24 sz_24 Bs3 rfl rfl)) (.tmp (t_int rfl)) F4 ?_
        exact new_bad (by omega)
      ·
        refine lx_value (want rfl) (pick_f rfl rfl) ?_
        refine lx_value (want rfl) (mv_bool rfl) ?_
        refine lx_value (want_if (j := 10) (d := 16) (x := false) (y := false) rfl rfl (by decide) rfl) (mv_int rfl) ?_
        refine lx_value (want_if (j := 10) (d := 16) (x := false) (y := false) rfl rfl (by decide) rfl) (rn_gtr rfl rfl) ?_
        refine lx_dec (fun h4 => ?_) (fun h4 => ?_)
        ·
          refine lx_value (want rfl) (pick_f rfl rfl) ?_
          refine lx_nil ?_
          refine wk_cond_t rfl ?_
          refine wk_seq ?_
          refine wk_region ?_
          refine lx_value (want rfl) (rn_build0  (fun w => bd_24  w)) ?_
          refine lx_set (want rfl) sz_24 rfl (t_agg rfl) rfl rfl rfl B1 (Nat.le_of_ble_eq_true rfl) ?_
          intro w2 Es4 Bs4
          have F5 := F1.set Es4 (by omega)
          have hzs4 := Es4.size
          refine lx_value (want rfl) (as_int rfl) ?_
          refine lx_nil ?_
          refine wk_ret ?_
          refine retR2 Tryd.results16 (.cell rfl (run_loadVar_blk ag_24 sz_24 Bs4 rfl rfl)) (.tmp (t_int rfl)) F5 ?_
          exact new_bad (by omega)
        ·
          obtain ⟨dim, rfl⟩ : ∃ k : Nat, d = (k : Int) := ⟨d.toNat, by omega⟩
          have hd : dim ≤ 3 := by omega
          have h32 := prod_le hd
          refine lx_value (want rfl) (pick_f rfl rfl) ?_
          refine lx_nil ?_
          refine wk_cond_f rfl ?_
          refine wk_skip ?_
          refine wk_seq ?_
          refine wk_region ?_
          refine lx_value (want rfl) (mv_int rfl) ?_
          refine lx_value (want rfl) (mv_int rfl) ?_
          refine lx_value (want rfl) (mv_int rfl) ?_
          refine lx_call (want rfl) (ent_func cf_37 (argsC (t_int rfl) args0)) (switches_ct dim hd w1) ?_
          rintro _ w2 E1 rfl
          have F6 := F1.ext E1
          have hz1 := E1.size
          refine lx_value (want rfl) (mv_int rfl) ?_
          refine lx_value (want rfl) (rn_addN rfl (n := 1) rfl (by omega)) ?_
          refine lx_value (want rfl) (rn_mulN rfl rfl (by omega)) ?_
          refine lx_newS (want rfl) (rn_makeSlice Tryd.underlying22 ti_49 rfl rfl rfl (by omega)) ?_
          intro b2 w3 hb2 Eb2 B2 hlb2
          have F7 := F6.ext Eb2
          have hzb2 := Eb2.size
          refine lx_value (want rfl) (rn_build3 (t_int rfl) (t_int rfl) (t_slice rfl) (fun w => bd_24_0_1_2 _ _ _ _ _ w)) ?_
          refine lx_set (want rfl) sz_24 rfl (t_agg rfl) rfl rfl rfl ((B1.ext E1).ext Eb2) (Nat.le_of_ble_eq_true rfl) ?_
          intro w4 Es5 Bs5
          have F8 := F7.set Es5 (by omega)
          have hzs5 := Es5.size
          refine lx_value (want rfl) (as_int rfl) ?_
          refine lx_nil ?_
          refine wk_ret ?_
          refine retR2 Tryd.results16 (.cell rfl (run_loadVar_blk ag_24 sz_24 Bs5 rfl rfl)) (.tmp (t_int rfl)) F8 ?_
          exact new_ok (by omega) rfl (B2.ne Es5 (by omega)) (by omega)

theorem first_ct (b dim : Nat) (r : Int) (s : Option Addr) (c : Nat) (T : List (TE Pk)) (L : List (List Pk)) (hm : T.map (·.2.2) = L) (hd : dim ≤ 3) (x y : Nat) (hx : x < 8) (hy : y ≤ 3) (l : List Pk) (hl : L[x * (dim + 1) + y]? = some l) (w0 : World) (hC : CubeP w0 b dim r s c T) :
    CT Tryd.prog 86 [.pointer (some ⟨b, 0, none⟩), .agg #[.int .i64 x, .int .i64 y]] w0 no (fun v _ => v = .tuple #[.agg #[.int .i64 (hdP l).1, .int .i64 (hdP l).2.1, .int .i64 (hdP l).2.2], .bool (decide (l ≠ []))]) := by
  have hbl := hC.blk.lt
  obtain ⟨⟨sE, cE, l⟩, he, hel⟩ := tab_at hm hl
  dsimp only at hel
  subst hel
  obtain ⟨bT, oT, hs, hcT⟩ := hC.tab.get he
  subst hs
  have F0 := Fr.refl no w0
  refine ct_body Tryd.func86 rfl Tryd.ntmps86 (Nat.le_of_ble_eq_true rfl) ?_
  refine wk_seq ?_
  refine wk_region ?_
  refine lx_new (want rfl) (rn_box (t_agg rfl)) ?_
  intro b21 w1 hb21 Eb21 B21 hlb21
  have F1 := F0.ext Eb21
  have hzb21 := Eb21.size
  refine lx_new (want rfl) (rn_alloc ze_41) ?_
  intro b22 w2 hb22 Eb22 B22 hlb22
  have F2 := F1.ext Eb22
  have hzb22 := Eb22.size
  refine lx_value (want rfl) (as_bool rfl) ?_
  refine lx_nil ?_
  refine wk_seq ?_
  refine wk_seq ?_
  refine wk_mix 10 (fun kS => match kS with | 9 => .val (.int .i64 (x * (dim + 1) + y : Nat)) | _ => .none) (by kernel_rfl) (by kernel_rfl) (by intro kS G hk; (try dsimp only at hk); (split at hk) <;> first | (cases hk; done) | (injection hk with hk; subst hk; exact ⟨by intro j hkj I v w w' hR hG; first | exact hG, fun ⟨_, _, _, _, hs⟩ => by (try dsimp only at hs); split at hs <;> cases hs⟩)) (by intro kS s y G hk; (try dsimp only at hk); split at hk <;> cases hk) ?_
  simp only [List.take_succ_cons, List.take_zero, List.take_nil, List.drop_succ_cons, List.drop_zero, List.drop_nil]
  refine mx_calm rfl (want rfl) (fun u1 eu1 fu1 => mv_pointer rfl) ?_
  refine mx_calm rfl (want rfl) (fun u2 eu2 fu2 => rn_nilCheck rfl) ?_
  refine mx_calm rfl (want rfl) (fun u3 eu3 fu3 => rn_fieldAddr fa_76_0 rfl) ?_
  refine mx_calm rfl (want rfl) (fun u4 eu4 fu4 => rn_fieldAddr fa_24_2 rfl) ?_
  refine mx_calm rfl (want rfl) (fun u5 eu5 fu5 => rn_load1Blk ag_22 rfl (((hC.blk.ext Eb21).ext Eb22).ext ((ext_drawn _).trans' eu5)) rfl) ?_
  refine mx_calm rfl (want rfl) (fun u6 eu6 fu6 => mv_pointer rfl) ?_
  refine mx_calm rfl (want rfl) (fun u7 eu7 fu7 => rn_nilCheck rfl) ?_
  refine mx_calm rfl (want rfl) (fun u8 eu8 fu8 => rn_loadBlk ag_76 sz_76 rfl (((hC.blk.ext Eb21).ext Eb22).ext ((ext_drawn _).trans' eu8)) rfl rfl) ?_
  refine mx_calm rfl (want rfl) (fun u9 eu9 fu9 => rn_loadBlk ag_82 sz_82 rfl ((B21.ext Eb22).ext ((ext_drawn _).trans' eu9)) rfl rfl) ?_
  refine mx_val rfl (want rfl) (fun u10 eu10 fu10 => do_call (ent_func cf_85 (argsC (t_agg rfl) (argsC (t_agg rfl) args0))) (cbuffer_ct dim r _ _ _ hd x y hx hy u10) (fun _ _ E h => ⟨E, h⟩)) ?_
  refine mx_nil (fun w3 E1' H1 HS => ?_)
  have E1 := (ext_drawn _).trans' E1'
  have F3 := F2.ext E1
  have hz1 := E1.size
  refine lx_value (want rfl) (rn_index (x * (dim + 1) + y) Tryd.underlying22 sz_49 rfl rfl rfl (List.getElem?_eq_some_iff.1 he).1) ?_
  refine lx_value (want rfl) (rn_load1 ag_49 rfl (F3.cell (fun h => h) hcT)) ?_
  refine lx_value (want rfl) (as_slice rfl) ?_
  refine lx_nil ?_
  refine wk_seq ?_
  refine wk_region ?_
  refine lx_value (want rfl) (mv_slice rfl) ?_
  refine lx_value (want rfl) (rn_len Tryd.underlying49 rfl) ?_
  refine lx_value (want rfl) (rn_gtr rfl rfl) ?_
  refine lx_dec (fun hne => ?_) (fun hne => ?_)
  ·
    obtain ⟨p, q, rfl⟩ := cons_of' hne
    have hpx : PkS (fun _ => True) w0 sE (p :: q) := (hC.tab.own _ _ he).sl (by decide) rfl (fun _ _ => rfl) (fun _ _ => trivial)
    obtain ⟨bp, op, hsp, _, hcp⟩ := hpx 0 p rfl
    (try dsimp only at hsp)
    subst hsp
    refine lx_nil ?_
    refine wk_cond_t rfl ?_
    refine wk_seq ?_
    refine wk_region ?_
    refine lx_value (want rfl) (mv_slice rfl) ?_
    refine lx_value (want rfl) (rn_index 0 Tryd.underlying49 sz_41 rfl rfl rfl (by simp)) ?_
    refine lx_value (want rfl) (rn_load3 ag_41 sz_41 rfl (F3.cell (fun h => h) (hcp 0 _ rfl)) (F3.cell (fun h => h) (hcp 1 _ rfl)) (F3.cell (fun h => h) (hcp 2 _ rfl))) ?_
    refine lx_set (want rfl) sz_41 rfl (t_agg rfl) rfl rfl rfl (B22.ext E1) (Nat.le_of_ble_eq_true rfl) ?_
    intro w4 Es1 Bs1
    have F4 := F3.set Es1 (by omega)
    have hzs1 := Es1.size
    refine lx_value (want rfl) (as_bool rfl) ?_
    refine lx_nil ?_
    refine wk_ret ?_
    refine retR2 Tryd.results86 (.cell rfl (run_loadVar_blk ag_41 sz_41 Bs1 rfl rfl)) (.tmp (t_bool rfl)) F4 ?_
    exact first_yes
  ·
    refine lx_nil ?_
    refine wk_cond_f rfl ?_
    refine wk_skip ?_
    refine wk_seq ?_
    refine wk_region ?_
    refine lx_value (want rfl) (rn_loadBlk ag_41 sz_41 rfl (B22.ext E1) rfl rfl) ?_
    refine lx_set (want rfl) sz_41 rfl (t_agg rfl) rfl rfl rfl (B22.ext E1) (Nat.le_of_ble_eq_true rfl) ?_
    intro w4 Es2 Bs2
    have F5 := F3.set Es2 (by omega)
    have hzs2 := Es2.size
    refine lx_value (want rfl) (as_bool rfl) ?_
    refine lx_nil ?_
    refine wk_ret ?_
    refine retR2 Tryd.results86 (.cell rfl (run_loadVar_blk ag_41 sz_41 Bs2 rfl rfl)) (.tmp (t_bool rfl)) F5 ?_
    exact first_no hne

theorem hasroom_ct (b dim : Nat) (r : Int) (s : Option Addr) (c : Nat) (T : List (TE Pk)) (L : List (List Pk)) (hm : T.map (·.2.2) = L) (hd : dim ≤ 3) (x y : Nat) (hx : x < 8) (hy : y ≤ 3) (l : List Pk) (hl : L[x * (dim + 1) + y]? = some l) (w0 : World) (hC : CubeP w0 b dim r s c T) :
    CT Tryd.prog 55 [.pointer (some ⟨b, 0, none⟩), .agg #[.int .i64 x, .int .i64 y]] w0 no (fun v _ => v = .bool (decide ((l.length : Int) < r))) := by
  have hbl := hC.blk.lt
  obtain ⟨⟨sE, cE, l⟩, he, hel⟩ := tab_at hm hl
  dsimp only at hel
  subst hel
  obtain ⟨bT, oT, hs, hcT⟩ := hC.tab.get he
  subst hs
  have F0 := Fr.refl no w0
  refine ct_body Tryd.func55 rfl Tryd.ntmps55 (Nat.le_of_ble_eq_true rfl) ?_
  refine wk_seq ?_
  refine wk_region ?_
  refine lx_new (want rfl) (rn_box (t_agg rfl)) ?_
  intro b21 w1 hb21 Eb21 B21 hlb21
  have F1 := F0.ext Eb21
  have hzb21 := Eb21.size
  refine lx_value (want rfl) (as_bool rfl) ?_
  refine lx_nil ?_
  refine wk_seq ?_
  refine wk_mix 18 (fun kS => match kS with | 9 => .val (.int .i64 (x * (dim + 1) + y : Nat)) | _ => .none) (by kernel_rfl) (by kernel_rfl) (by intro kS G hk; (try dsimp only at hk); (split at hk) <;> first | (cases hk; done) | (injection hk with hk; subst hk; exact ⟨by intro j hkj I v w w' hR hG; first | exact hG, fun ⟨_, _, _, _, hs⟩ => by (try dsimp only at hs); split at hs <;> cases hs⟩)) (by intro kS s y G hk; (try dsimp only at hk); split at hk <;> cases hk) ?_
  simp only [List.take_succ_cons, List.take_zero, List.take_nil, List.drop_succ_cons, List.drop_zero, List.drop_nil]
  refine mx_calm rfl (want rfl) (fun u1 eu1 fu1 => mv_pointer rfl) ?_
  refine mx_calm rfl (want rfl) (fun u2 eu2 fu2 => rn_nilCheck rfl) ?_
  refine mx_calm rfl (want rfl) (fun u3 eu3 fu3 => rn_fieldAddr fa_76_0 rfl) ?_
  refine mx_calm rfl (want rfl) (fun u4 eu4 fu4 => rn_fieldAddr fa_24_2 rfl) ?_
  refine mx_calm rfl (want rfl) (fun u5 eu5 fu5 => rn_load1Blk ag_22 rfl ((hC.blk.ext Eb21).ext ((ext_drawn _).trans' eu5)) rfl) ?_
  refine mx_calm rfl (want rfl) (fun u6 eu6 fu6 => mv_pointer rfl) ?_
  refine mx_calm rfl (want rfl) (fun u7 eu7 fu7 => rn_nilCheck rfl) ?_
  refine mx_calm rfl (want rfl) (fun u8 eu8 fu8 => rn_loadBlk ag_76 sz_76 rfl ((hC.blk.ext Eb21).ext ((ext_drawn _).trans' eu8)) rfl rfl) ?_
  refine mx_calm rfl (want rfl) (fun u9 eu9 fu9 => rn_loadBlk ag_82 sz_82 rfl (B21.ext ((ext_drawn _).trans' eu9)) rfl rfl) ?_
  refine mx_val rfl (want rfl) (fun u10 eu10 fu10 => do_call (ent_func cf_85 (argsC (t_agg rfl) (argsC (t_agg rfl) args0))) (cbuffer_ct dim r _ _ _ hd x y hx hy u10) (fun _ _ E h => ⟨E, h⟩)) ?_
  refine mx_calm rfl (want rfl) (fun u11 eu11 fu11 => rn_index (x * (dim + 1) + y) Tryd.underlying22 sz_49 rfl rfl rfl (List.getElem?_eq_some_iff.1 he).1) ?_
  refine mx_calm rfl (want rfl) (fun u12 eu12 fu12 => rn_load1 ag_49 rfl ((F1.ext ((ext_drawn _).trans' eu12)).cell (fun h => h) hcT)) ?_
  refine mx_calm rfl (want rfl) (fun u13 eu13 fu13 => rn_len Tryd.underlying49 rfl) ?_
  refine mx_calm rfl (want rfl) (fun u14 eu14 fu14 => mv_pointer rfl) ?_
  refine mx_calm rfl (want rfl) (fun u15 eu15 fu15 => rn_nilCheck rfl) ?_
  refine mx_calm rfl (want rfl) (fun u16 eu16 fu16 => rn_fieldAddr fa_76_0 rfl) ?_
  refine mx_calm rfl (want rfl) (fun u17 eu17 fu17 => rn_fieldAddr fa_24_1 rfl) ?_
  refine mx_calm rfl (want rfl) (fun u18 eu18 fu18 => rn_load1Blk ag_3 rfl ((hC.blk.ext Eb21).ext ((ext_drawn _).trans' eu18)) rfl) ?_
  refine mx_nil (fun w2 E1' H1 HS => ?_)
  have E1 := (ext_drawn _).trans' E1'
  have F2 := F1.ext E1
  have hz1 := E1.size
  refine lx_value (want rfl) (rn_lss rfl rfl) ?_
  refine lx_value (want rfl) (as_bool rfl) ?_
  refine lx_nil ?_
  refine wk_ret ?_
  refine retR1 Tryd.results55 (.tmp (t_bool rfl)) F2 ?_
  exact rfl

theorem over_ct (s k : Nat) (hs : s < 8) (hk : k < 3) (w0 : World) :
    CT Tryd.prog 78 [.int .i64 s, .int .i64 k] w0 no (fun v _ => v = .int .i64 (overN s k : Nat)) := by
  have hp := pow2_le k (show k ≤ 2 by omega) (by omega)
  have F0 := Fr.refl no w0
  refine ct_body Tryd.func78 rfl Tryd.ntmps78 (Nat.le_of_ble_eq_true rfl) ?_
  refine wk_seq ?_
  refine wk_region ?_
  refine lx_value (want rfl) (as_int rfl) ?_
  refine lx_nil ?_
  refine wk_seq ?_
  refine wk_seq ?_
  refine wk_region ?_
  refine lx_value (want rfl) (mv_int rfl) ?_
  refine lx_value (want rfl) (mv_int rfl) ?_
  refine lx_value (want rfl) (rn_shr rfl rfl (by omega)) ?_
  refine lx_value (want rfl) (rn_and rfl (n := 1) rfl (by have := Nat.div_le_self s (2 ^ k); omega)) ?_
  refine lx_value (want rfl) (rn_eql rfl rfl) ?_
  refine lx_dec (fun hb => ?_) (fun hb => ?_)
  ·
    refine lx_nil ?_
    refine wk_cond_t rfl ?_
    refine wk_seq ?_
    refine wk_region ?_
    refine lx_value (want rfl) (mv_int rfl) ?_
    refine lx_value (want rfl) (mv_int rfl) ?_
    refine lx_call (want rfl) (ent_func cf_37 (argsC (t_int rfl) args0)) (switches_ct k (by omega) w0) ?_
    rintro _ w1 E1 rfl
    have F1 := F0.ext E1
    have hz1 := E1.size
    refine lx_value (want rfl) (rn_subN rfl rfl ⟨over_le hb, by omega⟩) ?_
    refine lx_value (want rfl) (as_int rfl) ?_
    refine lx_nil ?_
    refine wk_ret ?_
    refine retR1 Tryd.results78 (.tmp (t_int rfl)) F1 ?_
    exact over_t hb
  ·
    refine lx_nil ?_
    refine wk_cond_f rfl ?_
    refine wk_skip ?_
    refine wk_seq ?_
    refine wk_region ?_
    refine lx_value (want rfl) (mv_int rfl) ?_
    refine lx_value (want rfl) (mv_int rfl) ?_
    refine lx_call (want rfl) (ent_func cf_37 (argsC (t_int rfl) args0)) (switches_ct k (by omega) w0) ?_
    rintro _ w1 E2 rfl
    have F2 := F0.ext E2
    have hz2 := E2.size
    refine lx_value (want rfl) (rn_addN rfl rfl (by omega)) ?_
    refine lx_value (want rfl) (as_int rfl) ?_
    refine lx_nil ?_
    refine wk_ret ?_
    refine retR1 Tryd.results78 (.tmp (t_int rfl)) F2 ?_
    exact over_f hb

theorem contains_ct (l : List Int) (s : Option Addr) (c : Nat) (F : Nat → Prop) (fid : FuncId) (caps : List Value) (q : Int → Bool) (hcf : ∀ args w, (callFunc fid args).run Tryd.prog w = .ok (.enter fid args) w) (w0 : World) (hl : IntS F w0 s l) (hb : l.length ≤ 1048576) (hq : ∀ z w, z ∈ l → Ext w0 w → CT Tryd.prog fid (.int .i64 z :: caps) w no (fun v _ => v = .bool (q z))) :
    CT Tryd.prog 66 [.slice s l.length c, .func (.func fid) #[] caps.toArray] w0 no (fun v _ => v = .bool (l.any q)) := by
  have F0 := Fr.refl no w0
  refine ct_body Tryd.func66 rfl Tryd.ntmps66 (Nat.le_of_ble_eq_true rfl) ?_
  refine wk_seq ?_
  refine wk_region ?_
  refine lx_value (want rfl) (as_bool rfl) ?_
  refine lx_nil ?_
  refine wk_seq ?_
  refine wk_region ?_
  refine lx_value (want rfl) (mv_slice rfl) ?_
  refine lx_value (want rfl) (mv_func rfl) ?_
  refine lx_call (want rfl) (ent_func cf_88 (argsC (t_slice rfl) (argsC (t_func rfl) args0))) (index_ct l _ _ _ fid caps q hcf w0 (hl.fr (int_stab _) F0 (fun _ _ h => h)) hb (fun z w hz E => hq z w hz (F0.trans' E))) ?_
  rintro _ w1 E1 ⟨iz, rfl, hiz⟩
  have F1 := F0.ext E1
  have hz1 := E1.size
  refine lx_value (want rfl) (rn_geq rfl rfl) ?_
  refine lx_value (want rfl) (as_bool rfl) ?_
  refine lx_nil ?_
  refine wk_ret ?_
  refine retR1 Tryd.results66 (.tmp (t_bool rfl)) F1 ?_
  exact congrArg Value.bool hiz

theorem containsp_ct (l : List Pk) (s : Option Addr) (c : Nat) (F : Nat → Prop) (fid : FuncId) (caps : List Value) (q : Pk → Bool) (hcf : ∀ args w, (callFunc fid args).run Tryd.prog w = .ok (.enter fid args) w) (w0 : World) (hl : PkS F w0 s l) (hb : l.length ≤ 1048576) (hq : ∀ z w, z ∈ l → Ext w0 w → CT Tryd.prog fid (pkV z :: caps) w no (fun v _ => v = .bool (q z))) :
    CT Tryd.prog 83 [.slice s l.length c, .func (.func fid) #[] caps.toArray] w0 no (fun v _ => v = .bool (l.any q)) := by
  have F0 := Fr.refl no w0
  refine ct_body Tryd.func83 rfl Tryd.ntmps83 (Nat.le_of_ble_eq_true rfl) ?_
  refine wk_seq ?_
  refine wk_region ?_
  refine lx_value (want rfl) (as_bool rfl) ?_
  refine lx_nil ?_
  refine wk_seq ?_
  refine wk_region ?_
  refine lx_value (want rfl) (mv_slice rfl) ?_
  refine lx_value (want rfl) (mv_func rfl) ?_
  refine lx_call (want rfl) (ent_func cf_91 (argsC (t_slice rfl) (argsC (t_func rfl) args0))) (indexp_ct l _ _ _ fid caps q hcf w0 (hl.fr (pk_stab _) F0 (fun _ _ h => h)) hb (fun z w hz E => hq z w hz (F0.trans' E))) ?_
  rintro _ w1 E1 ⟨iz, rfl, hiz⟩
  have F1 := F0.ext E1
  have hz1 := E1.size
  refine lx_value (want rfl) (rn_geq rfl rfl) ?_
  refine lx_value (want rfl) (as_bool rfl) ?_
  refine lx_nil ?_
  refine wk_ret ?_
  refine retR1 Tryd.results83 (.tmp (t_bool rfl)) F1 ?_
  exact congrArg Value.bool hiz

theorem tz_ct (x : Nat) (h0 : 0 < x) (h8 : x < 8) (w0 : World) (hT : Tb w0 1) :
    CT Tryd.prog 89 [.int .u64 x] w0 no (fun v _ => v = .int .i64 (tzN x : Nat)) := by
  have F0 := Fr.refl no w0
  refine ct_body Tryd.func89 rfl Tryd.ntmps89 (Nat.le_of_ble_eq_true rfl) ?_
  refine wk_seq ?_
  refine wk_region ?_
  refine lx_value (want rfl) (as_int rfl) ?_
  refine lx_nil ?_
  refine wk_seq ?_
  refine wk_cond_f rfl ?_
  refine wk_skip ?_
  refine wk_seq ?_
  refine wk_region ?_
  refine lx_value (want rfl) (mv_int rfl) ?_
  refine lx_call (want rfl) (ent_func cf_95 (argsC (t_int rfl) args0)) (tz64_ct _ h0 h8 w0 hT) ?_
  rintro _ w1 E1 rfl
  have F1 := F0.ext E1
  have hz1 := E1.size
  refine lx_value (want rfl) (as_int rfl) ?_
  refine lx_nil ?_
  refine wk_ret ?_
  refine retR1 Tryd.results89 (.tmp (t_int rfl)) F1 ?_
  exact rfl

theorem ones_ct (x : Nat) (hx : x < 8) (w0 : World) :
    CT Tryd.prog 84 [.int .u64 x] w0 no (fun v _ => v = .int .i64 (popN x : Nat)) := by
  have F0 := Fr.refl no w0
  refine ct_body Tryd.func84 rfl Tryd.ntmps84 (Nat.le_of_ble_eq_true rfl) ?_
  refine wk_seq ?_
  refine wk_region ?_
  refine lx_value (want rfl) (as_int rfl) ?_
  refine lx_nil ?_
  refine wk_seq ?_
  refine wk_cond_f rfl ?_
  refine wk_skip ?_
  refine wk_seq ?_
  refine wk_region ?_
  refine lx_value (want rfl) (mv_int rfl) ?_
  refine lx_call (want rfl) (ent_func cf_93 (argsC (t_int rfl) args0)) (ones64_ct _ hx w0) ?_
  rintro _ w1 E1 rfl
  have F1 := F0.ext E1
  have hz1 := E1.size
  refine lx_value (want rfl) (as_int rfl) ?_
  refine lx_nil ?_
  refine wk_ret ?_
  refine retR1 Tryd.results84 (.tmp (t_int rfl)) F1 ?_
  exact rfl

end Go.Proofs.YtlfclnkoimfhmaaDoor

/- What functions of the cube compute: moved, can, way. -/
import Derived.Test.YtlfclnkoimfhmaaDoorFacts
import Derived.Test.YtlfclnkoimfhmaaDoorPre
import Derived.Test.YtlfclnkoimfhmaaDoorWalk1
import Derived.Test.YtlfclnkoimfhmaaDoorWalk3
import Derived.Test.YtlfclnkoimfhmaaDoorWalk4
set_option linter.unusedVariables false
set_option linter.unusedSimpArgs false
namespace Go.Proofs.YtlfclnkoimfhmaaDoor
open Go Go.RowKit Go.Mix Go.Eng
theorem moved_ct (dim : Nat) (r : Int) (L : List (List Pk)) (s : Option Addr) (c : Nat) (G : Nat → Prop) (hV : Valid dim r L) (n : Nat) (p1 p2 p3 : Int) (q : List Pk) (hn : L[n]? = some ((p1, p2, p3) :: q)) (w0 : World) (hL : BufS G w0 s L) :
    CT Tryd.prog 64 [.agg #[.int .i64 dim, .int .i64 r, .slice s L.length c], .int .i64 n] w0 no (fun v w => MovedQ w0.heap.size dim r L n (p1, p2, p3) q v w) := by
  have hnL := (List.getElem?_eq_some_iff.1 hn).1
  have hq8 := hV.le8 hn
  obtain ⟨bx, ox, rfl, _, sx, cx, hcx, hpx⟩ := hL n _ hn
  obtain ⟨by_, oy, rfl, _, hcy⟩ := hpx 0 _ rfl
  have F0 := Fr.refl no w0
  refine ct_body Tryd.func64 rfl Tryd.ntmps64 (Nat.le_of_ble_eq_true rfl) ?_
  refine wk_seq ?_
  refine wk_region ?_
  refine lx_new (want rfl) (rn_box (t_agg rfl)) ?_
  intro b1 w1 hb1 Eb1 B1 hlb1
  have F1 := F0.ext Eb1
  have hzb1 := Eb1.size
  refine lx_new (want rfl) (rn_alloc ze_24) ?_
  intro b2 w2 hb2 Eb2 B2 hlb2
  have F2 := F1.ext Eb2
  have hzb2 := Eb2.size
  refine lx_value (want rfl) (as_slice rfl) ?_
  refine lx_nil ?_
  refine wk_seq ?_
  refine wk_mix 16 (fun kS => match kS with | 1 => .any (fun I v w => ∃ (s : Option Addr) (c : Nat) (T : List (TE Pk)), v = .agg #[.int .i64 dim, .int .i64 r, .slice s T.length c] ∧ T.map (·.2.2) = L ∧ Tab w 49 41 3 pkC s c T ∧ ∀ k, tb s T k → w2.heap.size ≤ k ∧ I.1 ≤ k ∧ k < I.2) | 4 => .val (.int .i64 (tgt dim n (p1, p2, p3))) | 12 => .any (fun I v w => v = .pointer (some ⟨I.1, 0, none⟩) ∧ w2.heap.size ≤ I.1 ∧ I.1 < I.2 ∧ Blk w I.1 [.int .i64 0, .int .i64 0, .slice none 0 0] 24) | 13 => .any (fun I v w => ∃ b, v = .pointer (some ⟨b, 0, none⟩) ∧ w2.heap.size ≤ b ∧ (I.1 ≤ b ∧ b < I.2) ∧ Blk w b [.int .i64 0, .int .i64 0, .int .i64 0] 41) | 14 => .sto 6 10 (fun J u w => J.1 < J.2 ∧ Blk w J.1 u.cells.toList 24) | _ => .none) (by kernel_rfl) (by kernel_rfl) (by intro kS G hk; (try dsimp only at hk); (split at hk) <;> first | (cases hk; done) | (injection hk with hk; subst hk; exact ⟨by intro j hkj I v w w' hR hG; first | exact hG | (obtain ⟨s, c, T, h1, h2, h3, h4⟩ := hG; exact ⟨s, c, T, h1, h2, h3.ext hR, h4⟩) | (obtain ⟨h1, h2, hI, h3⟩ := hG; exact ⟨h1, h2, hI, h3.ext hR⟩) | (obtain ⟨b, h1, h2, hI, h3⟩ := hG; exact ⟨b, h1, h2, hI, h3.ext hR⟩), fun _ I v w w' hR hG => by first | exact hG | (obtain ⟨s, c, T, h1, h2, h3, h4⟩ := hG; exact ⟨s, c, T, h1, h2, h3.fr hR (fun k hk h => h.2 ⟨(h4 k hk).2.1, (h4 k hk).2.2⟩), h4⟩) | (obtain ⟨h1, h2, hI, h3⟩ := hG; exact ⟨h1, h2, hI, h3.fr hR (fun h => h.2 ⟨Nat.le_refl _, hI⟩)⟩) | (obtain ⟨b, h1, h2, hI, h3⟩ := hG; exact ⟨b, h1, h2, hI, h3.fr hR (fun h => h.2 hI)⟩)⟩)) (by intro kS s y G hk; (try dsimp only at hk); (split at hk) <;> first | (cases hk; done) | (injection hk with hk1 hk2 hk3; subst hk1; subst hk2; subst hk3; exact ⟨by kernel_rfl, by intro j hkj I v w w' hR hG; exact ⟨hG.1, hG.2.ext hR⟩, fun I v w w' hR hG => ⟨hG.1, hG.2.fr hR (fun h => h.2 ⟨Nat.le_refl _, hG.1⟩)⟩⟩)) ?_
  simp only [List.take_succ_cons, List.take_zero, List.take_nil, List.drop_succ_cons, List.drop_zero, List.drop_nil]
  refine mx_calm rfl (want rfl) (fun u1 eu1 fu1 => rn_loadBlk ag_24 sz_24 rfl ((B1.ext Eb2).ext ((ext_drawn _).trans' eu1)) rfl rfl) ?_
  refine mx_any rfl rfl (want rfl) (fun u2 eu2 fu2 => do_call (ent_func cf_23 (argsC (t_agg rfl) args0)) (copy_ct _ _ _ _ _ _ hV.bd u2 (hL.fr (buf_stab _) (F2.ext ((ext_drawn _).trans' eu2)) (fun _ _ h => h))) (fun v w' E h => ⟨E, by obtain ⟨s, c, T, h1, h2, h3, h4⟩ := h; exact ⟨s, c, T, h1, h2, h3, fun k hk => ⟨Nat.le_trans ((ext_drawn _).trans' eu2).size (h4 k hk), h4 k hk, h3.lt hk⟩⟩⟩)) (fun I10 v10 => ?_)
  refine mx_calm rfl (want rfl) (fun u3 eu3 fu3 => rn_loadBlk ag_24 sz_24 rfl ((B1.ext Eb2).ext ((ext_drawn _).trans' eu3)) rfl rfl) ?_
  refine mx_calm rfl (want rfl) (fun u4 eu4 fu4 => mv_int rfl) ?_
  refine mx_val rfl (want rfl) (fun u5 eu5 fu5 => do_call (ent_func cf_71 (argsC (t_agg rfl) (argsC (t_int rfl) args0))) (target_ct dim r L _ _ _ hV n _ q hn u5 (hL.fr (buf_stab _) (F2.ext ((ext_drawn _).trans' eu5)) (fun _ _ h => h))) (fun _ _ E h => ⟨E, h⟩)) ?_
  refine mx_calm rfl (want rfl) (fun u6 eu6 fu6 => rn_fieldAddr fa_24_2 rfl) ?_
  refine mx_calm rfl (want rfl) (fun u7 eu7 fu7 => rn_load1Blk ag_22 rfl ((B1.ext Eb2).ext ((ext_drawn _).trans' eu7)) rfl) ?_
  refine mx_calm rfl (want rfl) (fun u8 eu8 fu8 => mv_int rfl) ?_
  refine mx_calm rfl (want rfl) (fun u9 eu9 fu9 => rn_index n Tryd.underlying22 sz_49 rfl rfl rfl (by omega)) ?_
  refine mx_calm rfl (want rfl) (fun u10 eu10 fu10 => rn_load1 ag_49 rfl ((F2.ext ((ext_drawn _).trans' eu10)).cell (fun h => h) hcx)) ?_
  refine mx_calm rfl (want rfl) (fun u11 eu11 fu11 => rn_index 0 Tryd.underlying49 sz_41 rfl rfl rfl (by simp)) ?_
  refine mx_calm rfl (want rfl) (fun u12 eu12 fu12 => rn_load3 ag_41 sz_41 rfl ((F2.ext ((ext_drawn _).trans' eu12)).cell (fun h => h) (hcy 0 _ rfl)) ((F2.ext ((ext_drawn _).trans' eu12)).cell (fun h => h) (hcy 1 _ rfl)) ((F2.ext ((ext_drawn _).trans' eu12)).cell (fun h => h) (hcy 2 _ rfl))) ?_
  refine mx_any rfl rfl (want rfl) (fun u13 eu13 fu13 => (do_new3 (rn_alloc ze_24) (show _ ≤ _ from (((ext_drawn _).trans' eu13)).size)).mono (fun v w' h => ⟨h.1, h.2⟩)) (fun I6 v6 => ?_)
  refine mx_any rfl rfl (want rfl) (fun u14 eu14 fu14 => (do_new2 (rn_alloc ze_41) (show _ ≤ _ from (((ext_drawn _).trans' eu14)).size)).mono (fun v w' h => ⟨h.1, h.2⟩)) (fun I8 v8 => ?_)
  refine mx_sto rfl rfl rfl rfl (want rfl) (fun u15 eu15 fu15 _ => by obtain ⟨rfl, hl6, hi6, hB6⟩ := fu15 6 _ rfl (show (6 : Nat) ∈ _ from by decide); obtain ⟨s, c, T, rfl, _, _, _⟩ := fu15 10 _ rfl (show (10 : Nat) ∈ _ from by decide); exact (do_sto sz_24 rfl rfl rfl rfl rfl hB6 rfl ⟨Nat.le_refl _, hi6⟩).mono (fun v w' h => ⟨h.1, h.2.1, hi6, h.2.2⟩)) ?_
  refine mx_calm rfl (want rfl) (fun u16 eu16 fu16 => as_int rfl) ?_
  refine mx_nil (fun w3 E1' H1 HS => ?_)
  have E1 := (ext_drawn _).trans' E1'
  have F3 := F2.ext E1
  have hz1 := E1.size
  have hI8 := (HS.1 8 _ rfl).2
  have hI6 := (HS.1 6 _ rfl).2
  have hI10 := (HS.1 10 _ rfl).2
  have hX8_6 := HS.2 8 _ 6 _ rfl rfl (show (8 : Nat) ≠ 6 from by decide)
  have hX8_10 := HS.2 8 _ 10 _ rfl rfl (show (8 : Nat) ≠ 10 from by decide)
  have hX6_10 := HS.2 6 _ 10 _ rfl rfl (show (6 : Nat) ≠ 10 from by decide)
  simp only at hI8
  simp only at hI6
  simp only at hI10
  simp only at hX8_6
  simp only at hX8_10
  simp only at hX6_10
  have g8 := H1 8 _ rfl
  (try dsimp only at g8); obtain ⟨b13, hv8, hbb13, hib13, Bb13⟩ := g8; subst hv8; have hlbb13 := Bb13.lt
  have g6 := H1 6 _ rfl
  obtain ⟨⟨_, hv6, hb6, _, _⟩, hi6, hB6⟩ := g6; subst hv6; have hlb6 := hB6.lt
  have g10 := H1 10 _ rfl
  obtain ⟨sC, cC, TC, rfl, hTC, hTabC, hgC⟩ := g10
  have hiC : ∀ k, tb sC TC k → (tb (none : Option Addr) ([] : List (TE Pk)) k ∨ _ ≤ k) := fun k hk => .inr (hgC k hk).1
  have tg2 : ∀ k, tb sC TC k → w0.heap.size ≤ k := fun k hk => (hiC k hk).elim ((fun _ h => tb_nil h) k) (fun h => by omega)
  have tn2_1 : ∀ k, tb sC TC k → k ≠ b1 := fun k hk => (hiC k hk).elim ((fun _ h => tb_nil h) k) (fun h => by have hq := hgC k hk; have := (B1).lt; omega)
  have tn2_2 : ∀ k, tb sC TC k → k ≠ b2 := fun k hk => (hiC k hk).elim ((fun _ h => tb_nil h) k) (fun h => by have hq := hgC k hk; have := (B2).lt; omega)
  have tn2_13 : ∀ k, tb sC TC k → k ≠ b13 := fun k hk => (hiC k hk).elim ((fun _ h => tb_nil h) k) (fun h => by have hq := hgC k hk; have := (Bb13).lt; omega)
  have nb1 : ∀ k, tb sC TC k → k ≠ I6.1 := fun k hk => by have hq := hgC k hk; have := (hTabC).lt hk; omega
  refine lx_set (want rfl) sz_41 rfl (t_agg rfl) rfl rfl rfl Bb13 (Nat.le_of_ble_eq_true rfl) ?_
  intro w4 Es1 Bs1
  have F4 := F3.set Es1 (by omega)
  have hzs1 := Es1.size
  refine lx_nil ?_
  refine wk_seq ?_
  obtain ⟨⟨sE, cE, lE⟩, he, hel⟩ := tab_at hTC hn
  dsimp only at hel
  subst hel
  obtain ⟨bT, oT, hs, hcT⟩ := ((hTabC.fr Es1 (fun k hk h => tn2_13 k hk h))).get he
  subst hs
  refine wk_mix 9 (fun _ => .none) (by kernel_rfl) (by kernel_rfl) (fun kS G hk => by cases hk) (fun kS s y G hk => by cases hk) ?_
  simp only [List.take_succ_cons, List.take_zero, List.take_nil, List.drop_succ_cons, List.drop_zero, List.drop_nil]
  refine mx_calm rfl (want rfl) (fun u17 eu17 fu17 => rn_fieldAddr fa_24_2 rfl) ?_
  refine mx_calm rfl (want rfl) (fun u18 eu18 fu18 => rn_load1Blk ag_22 rfl ((hB6.ne Es1 (by omega)).ext ((ext_drawn _).trans' eu18)) rfl) ?_
  refine mx_calm rfl (want rfl) (fun u19 eu19 fu19 => mv_int rfl) ?_
  refine mx_calm rfl (want rfl) (fun u20 eu20 fu20 => rn_fieldAddr fa_24_2 rfl) ?_
  refine mx_calm rfl (want rfl) (fun u21 eu21 fu21 => rn_load1Blk ag_22 rfl ((hB6.ne Es1 (by omega)).ext ((ext_drawn _).trans' eu21)) rfl) ?_
  refine mx_calm rfl (want rfl) (fun u22 eu22 fu22 => mv_int rfl) ?_
  refine mx_calm rfl (want rfl) (fun u23 eu23 fu23 => rn_index n Tryd.underlying22 sz_49 rfl rfl rfl (List.getElem?_eq_some_iff.1 he).1) ?_
  refine mx_calm rfl (want rfl) (fun u24 eu24 fu24 => rn_load1 ag_49 rfl (((ext_drawn _).trans' eu24).cell (fun h => h) hcT)) ?_
  refine mx_calm rfl (want rfl) (fun u25 eu25 fu25 => rn_sliceFrom 1 Tryd.underlying49 sz_41 rfl rfl rfl (by simp)) ?_
  refine mx_nil (fun w5 E2' H2 HS => ?_)
  have E2 := (ext_drawn _).trans' E2'
  have F5 := F4.ext E2
  have hz2 := E2.size
  refine lx_value (want rfl) (rn_index n Tryd.underlying22 sz_49 rfl rfl rfl (List.getElem?_eq_some_iff.1 he).1) ?_
  refine lx_ownset (want rfl) sz_49 rfl (t_slice rfl) rfl rfl rfl (((hTabC.fr Es1 (fun k hk h => tn2_13 k hk h)).ext E2)).out (List.getElem?_eq_some_iff.1 he).1 ?_
  intro w6 E3' HO1
  have E3 : Fr (ob (some (⟨bT, oT, none⟩ : Addr))) _ _ := E3'.mono (fun i _ hi => ⟨_, _, by subst hi; rfl⟩)
  have F6 := F5.new E3 (fun k h => tg2 k (.inl h))
  have hz3 := E3.size
  obtain ⟨tw1, ti1⟩ := Tab.set (e' := ((dropAt sE 1 cE 3, cE - 1, q) : TE Pk)) ((hTabC.fr Es1 (fun k hk h => tn2_13 k hk h)).ext E2) he (Fr.refl _ _) (((((hTabC.fr Es1 (fun k hk h => tn2_13 k hk h)).ext E2)).own _ _ he).drop (k := 1) (by simp)) (fun k h => .inl (ob_drop h)) E3 HO1
  have tg3 : ∀ k, tb (some (⟨bT, oT, none⟩ : Addr)) (TC.set n ((dropAt sE 1 cE 3, cE - 1, q) : TE Pk)) k → w0.heap.size ≤ k := fun k hk => (ti1 k hk).elim (tg2 k) (fun h => by omega)
  have tn3_1 : ∀ k, tb (some (⟨bT, oT, none⟩ : Addr)) (TC.set n ((dropAt sE 1 cE 3, cE - 1, q) : TE Pk)) k → k ≠ b1 := fun k hk => (ti1 k hk).elim (tn2_1 k) (fun h => by have := (B1).lt; omega)
  have tn3_2 : ∀ k, tb (some (⟨bT, oT, none⟩ : Addr)) (TC.set n ((dropAt sE 1 cE 3, cE - 1, q) : TE Pk)) k → k ≠ b2 := fun k hk => (ti1 k hk).elim (tn2_2 k) (fun h => by have := (B2).lt; omega)
  have tn3_13 : ∀ k, tb (some (⟨bT, oT, none⟩ : Addr)) (TC.set n ((dropAt sE 1 cE 3, cE - 1, q) : TE Pk)) k → k ≠ b13 := fun k hk => (ti1 k hk).elim (tn2_13 k) (fun h => by have := (Bs1).lt; omega)
  have tn3_1006 : ∀ k, tb (some (⟨bT, oT, none⟩ : Addr)) (TC.set n ((dropAt sE 1 cE 3, cE - 1, q) : TE Pk)) k → k ≠ I6.1 := fun k hk => (ti1 k hk).elim (nb1 k) (fun h => by have := (hB6).lt; omega)
  refine lx_nil ?_
  refine wk_seq ?_
  refine wk_seq ?_
  refine wk_region ?_
  refine lx_value (want rfl) (mv_int rfl) ?_
  refine lx_value (want rfl) (rn_lss rfl rfl) ?_
  refine lx_dec (fun hlt => ?_) (fun hlt => ?_)
  ·
    refine lx_nil ?_
    refine wk_cond_t rfl ?_
    refine wk_seq ?_
    refine wk_mixK 4 4 ((((B2.ext E1).ne Es1 (by omega)).ext E2).fr E3 (fun h => tn2_2 _ (.inl h) rfl)) (fun kS => match kS with | 2 => .any (fun I v w => ∃ b, v = .slice (some ⟨b, 0, none⟩) 1 1 ∧ w6.heap.size ≤ b ∧ (I.1 ≤ b ∧ b < I.2) ∧ Blk w b [.int .i64 p1, .int .i64 p2, .int .i64 p3] 41) | 3 => .sto 4 33 (fun J u w => J.1 < J.2 ∧ Blk w J.1 u.cells.toList 24) | _ => .none) (by kernel_rfl) (by kernel_rfl) (by intro kS G hk; (try dsimp only at hk); (split at hk) <;> first | (cases hk; done) | (injection hk with hk; subst hk; exact ⟨by intro j hkj I v w w' hR hG; first | exact hG | (obtain ⟨b, h1, h2, hI, h3⟩ := hG; exact ⟨b, h1, h2, hI, h3.ext hR⟩), fun _ I v w w' hR hG => by first | exact hG | (obtain ⟨b, h1, h2, hI, h3⟩ := hG; exact ⟨b, h1, h2, hI, h3.fr hR (fun h => h.2 hI)⟩)⟩)) (by intro kS s y G hk; (try dsimp only at hk); (split at hk) <;> first | (cases hk; done) | (injection hk with hk1 hk2 hk3; subst hk1; subst hk2; subst hk3; exact ⟨by kernel_rfl, by intro j hkj I v w w' hR hG; exact ⟨hG.1, hG.2.ext hR⟩, fun I v w w' hR hG => ⟨hG.1, hG.2.fr hR (fun h => h.2 ⟨Nat.le_refl _, hG.1⟩)⟩⟩)) ?_
    simp only [List.take_succ_cons, List.take_zero, List.take_nil, List.drop_succ_cons, List.drop_zero, List.drop_nil]
    refine mx_calm rfl (want rfl) (fun u26 eu26 fu26 => rn_loadBlk ag_24 sz_24 rfl ((((hB6.ne Es1 (by omega)).ext E2).fr E3 (fun h => nb1 _ (.inl h) rfl)).fr (mG eu26) (show ¬ (I6.1 = b2) by omega)) rfl rfl) ?_
    refine mx_calm rfl (want rfl) (fun u27 eu27 fu27 => rn_loadBlk ag_41 sz_41 rfl (((Bs1.ext E2).fr E3 (fun h => tn2_13 _ (.inl h) rfl)).fr (mG eu27) (show ¬ (b13 = b2) by omega)) rfl rfl) ?_
    refine mx_any rfl rfl (want rfl) (fun u28 eu28 fu28 => (do_newS2 (rn_bslice (xs := [.tmp 34]) Tryd.underlying49 sz_41 ze_41 rfl (argsC (t_agg rfl) args0) (CL.cons rfl rfl CL.nil) rfl (Nat.le_of_ble_eq_true rfl)) (show _ ≤ _ from ((mG eu28)).size)).mono (fun v w' h => ⟨h.1, h.2⟩)) (fun I35 v35 => ?_)
    refine mx_sto rfl rfl rfl rfl (want rfl) (fun u29 eu29 fu29 _ => by obtain hB4 := fu29 4 _ rfl (show (4 : Nat) ∈ _ from by decide); exact (do_sto sz_24 rfl rfl rfl rfl rfl hB4 rfl ⟨Nat.le_refl _, (Nat.lt_succ_self _)⟩).mono (fun v w' h => ⟨h.1, h.2.1, (Nat.lt_succ_self _), h.2.2⟩)) ?_
    refine mx_nil (fun w7 E4' H3 HS => ?_)
    have E4 := mG E4'
    have F7 := F6.set E4 (by omega)
    have hz4 := E4.size
    obtain ⟨_, _, hBK7⟩ := H3 4 _ rfl
    have hI35 := (HS.1 35 _ rfl).2
    simp only at hI35
    have g35 := H3 35 _ rfl
    obtain ⟨bR, rfl, hbbR, hibR, hBbR⟩ := g35
    refine lx_value (want rfl) (as_slice rfl) ?_
    refine lx_nil ?_
    refine wk_ret ?_
    refine retR2 Tryd.results64 (.cell rfl (run_loadVar_blk ag_24 sz_24 hBK7 rfl rfl)) (.tmp (t_slice rfl)) F7 ?_
    exact moved_out hlt (tab_cube (tw1.fr E4 (fun k hk h => tn3_2 k hk h)) (set_map hTC _ _) tg3 (by simp)) (PkR.one hBbR (by omega))
  ·
    obtain ⟨m, hm, hmL⟩ := tgt_lt hV hn hlt
    have hTC2 := set_map hTC n (dropAt sE 1 cE 3, cE - 1, q)
    dsimp only at hTC2
    obtain ⟨lm, hlm⟩ : ∃ l, (L.set n q)[m]? = some l := ⟨_, List.getElem?_eq_getElem (by rw [List.length_set]; exact hmL)⟩
    have hlm8 := set_len8 hV hn hlm
    refine lx_nil ?_
    refine wk_cond_f rfl ?_
    refine wk_skip ?_
    refine wk_seq ?_
    obtain ⟨⟨sF, cF, lF⟩, heF, helF⟩ := tab_at hTC2 hlm
    dsimp only at helF
    subst helF
    obtain ⟨bTF, oTF, hsF, hcTF⟩ := (tw1).get heF
    injection hsF with hsF
    injection hsF with hsF1 hsF2
    subst hsF1
    subst hsF2
    have hTo := tw1
    have hOw := hTo.own _ _ heF
    have hSl : ∀ k, (ob sF) k → k < w6.heap.size := fun k h => (tw1).lt (.inr ⟨_, _, heF, h⟩)
    refine wk_mixA 11 10 (ob sF) (fun kS => match kS with | 9 => .any (fun I v w => ∃ b, v = .slice (some ⟨b, 0, none⟩) 1 1 ∧ w6.heap.size ≤ b ∧ (I.1 ≤ b ∧ b < I.2) ∧ Blk w b [.int .i64 p1, .int .i64 p2, .int .i64 p3] 41) | 10 => .any (fun I v w => ∃ s c, v = .slice s (lm ++ [(((p1 : Int), (p2 : Int), (p3 : Int)) : Pk)]).length c ∧ OwnS w 41 3 s (lm ++ [(((p1 : Int), (p2 : Int), (p3 : Int)) : Pk)]).length c ((lm ++ [(((p1 : Int), (p2 : Int), (p3 : Int)) : Pk)]).flatMap pkC) ∧ ∀ k, ob s k → (ob sF k ∨ w6.heap.size ≤ k)) | _ => .none) (by kernel_rfl) (by kernel_rfl) (by intro kS G hk; (try dsimp only at hk); (split at hk) <;> first | (cases hk; done) | (injection hk with hk; subst hk; exact ⟨by intro j hkj I v w w' hR hG; first | exact hG | (obtain ⟨b, h1, h2, hI, h3⟩ := hG; exact ⟨b, h1, h2, hI, h3.fr (mS hR) (fun hs => by have := hSl _ hs; omega)⟩) | (obtain ⟨s, c, h1, h2, h3⟩ := hG; exact ⟨s, c, h1, h2.ext (mT hkj hR), h3⟩), fun ⟨_, _, _, _, hs⟩ => by (try dsimp only at hs); split at hs <;> cases hs⟩)) (by intro kS s y G hk; (try dsimp only at hk); split at hk <;> cases hk) ?_
    simp only [List.take_succ_cons, List.take_zero, List.take_nil, List.drop_succ_cons, List.drop_zero, List.drop_nil]
    refine mx_calm rfl (want rfl) (fun u30 eu30 fu30 => rn_fieldAddr fa_24_2 rfl) ?_
    refine mx_calm rfl (want rfl) (fun u31 eu31 fu31 => rn_load1Blk ag_22 rfl ((((hB6.ne Es1 (by omega)).ext E2).fr E3 (fun h => nb1 _ (.inl h) rfl)).fr (mD (by decide) eu31) (fun h => tn3_1006 _ (.inr ⟨_, _, heF, h⟩) rfl)) rfl) ?_
    refine mx_calm rfl (want rfl) (fun u32 eu32 fu32 => mv_int rfl) ?_
    refine mx_calm rfl (want rfl) (fun u33 eu33 fu33 => rn_fieldAddr fa_24_2 rfl) ?_
    refine mx_calm rfl (want rfl) (fun u34 eu34 fu34 => rn_load1Blk ag_22 rfl ((((hB6.ne Es1 (by omega)).ext E2).fr E3 (fun h => nb1 _ (.inl h) rfl)).fr (mD (by decide) eu34) (fun h => tn3_1006 _ (.inr ⟨_, _, heF, h⟩) rfl)) rfl) ?_
    refine mx_calm rfl (want rfl) (fun u35 eu35 fu35 => mv_int rfl) ?_
    refine mx_calm rfl (want rfl) (fun u36 eu36 fu36 => rn_index m Tryd.underlying22 sz_49 rfl rfl hm (by have := (List.getElem?_eq_some_iff.1 heF).1; rwa [List.length_set] at this)) ?_
    refine mx_calm rfl (want rfl) (fun u37 eu37 fu37 => rn_load1 ag_49 rfl ((mD (by decide) eu37).cell (fun h => hTo.sep _ _ heF _ h ⟨_, _, rfl⟩) hcTF)) ?_
    refine mx_calm rfl (want rfl) (fun u38 eu38 fu38 => rn_loadBlk ag_41 sz_41 rfl (((Bs1.ext E2).fr E3 (fun h => tn2_13 _ (.inl h) rfl)).fr (mD (by decide) eu38) (fun h => tn3_13 _ (.inr ⟨_, _, heF, h⟩) rfl)) rfl rfl) ?_
    refine mx_any rfl rfl (want rfl) (fun u39 eu39 fu39 => (do_newS2 (rn_bslice (xs := [.tmp 44]) Tryd.underlying49 sz_41 ze_41 rfl (argsC (t_agg rfl) args0) (CL.cons rfl rfl CL.nil) rfl (Nat.le_of_ble_eq_true rfl)) (show _ ≤ _ from ((mD (by decide) eu39)).size)).mono (fun v w' h => ⟨(mE (by decide) h.1), h.2⟩)) (fun I45 v45 => ?_)
    refine mx_any rfl rfl (want rfl) (fun u40 eu40 fu40 => by obtain ⟨bS, rfl, hbS, _, hBS⟩ := fu40 45 _ rfl (show (45 : Nat) ∈ _ from by decide); exact do_append 24 Tryd.underlying49 ti_41 (by decide) rfl (by decide) rfl rfl (hOw.ext (mC eu40)) (Src.blk hBS rfl rfl) (show lm.length + 1 ≤ 1073741824 by omega) (fun sA cA wA AP => ⟨(mF AP.fr), ⟨sA, cA, by simp, by have h := AP.own; rw [List.length_append, List.flatMap_append]; exact h, fun k hk => (AP.blk k hk).elim .inl (fun h => .inr (Nat.le_trans (mC eu40).size h))⟩⟩)) (fun I46 v46 => ?_)
    refine mx_nil (fun w7 E5' H4 HS => ?_)
    have E5 := mG E5'
    have F8 := F6.new E5 (fun k h => tg3 k (.inr ⟨_, _, heF, h⟩))
    have hz5 := E5.size
    have hI46 := (HS.1 46 _ rfl).2
    have hI45 := (HS.1 45 _ rfl).2
    have hX46_45 := HS.2 46 _ 45 _ rfl rfl (show (46 : Nat) ≠ 45 from by decide)
    simp only at hI46
    simp only at hI45
    simp only at hX46_45
    have g46 := H4 46 _ rfl
    obtain ⟨sq2, cq2, rfl, hO2, hI2⟩ := g46
    have g45 := H4 45 _ rfl
    refine lx_value (want rfl) (rn_index m Tryd.underlying22 sz_49 rfl rfl hm (by have := (List.getElem?_eq_some_iff.1 heF).1; rwa [List.length_set] at this)) ?_
    refine lx_ownset (want rfl) sz_49 rfl (t_slice rfl) rfl rfl rfl (hTo.out.fr E5 (fun k hk hs => hTo.sep _ _ heF k hs hk)) (List.getElem?_eq_some_iff.1 heF).1 ?_
    intro w8 E6' HO3
    have E6 : Fr (ob (some (⟨bT, oT, none⟩ : Addr))) _ _ := E6'.mono (fun i _ hi => ⟨_, _, by subst hi; rfl⟩)
    have F9 := F8.new E6 (fun k h => tg3 k (.inl h))
    have hz6 := E6.size
    obtain ⟨tw3, ti3⟩ := Tab.set (e' := (sq2, cq2, lm ++ [(((p1 : Int), (p2 : Int), (p3 : Int)) : Pk)])) hTo heF E5 hO2 hI2 E6 HO3
    have tg4 : ∀ k, tb (some (⟨bT, oT, none⟩ : Addr)) ((TC.set n ((dropAt sE 1 cE 3, cE - 1, q) : TE Pk)).set m (sq2, cq2, lm ++ [(((p1 : Int), (p2 : Int), (p3 : Int)) : Pk)])) k → w0.heap.size ≤ k := fun k hk => (ti3 k hk).elim (tg3 k) (fun h => by omega)
    have tn4_1 : ∀ k, tb (some (⟨bT, oT, none⟩ : Addr)) ((TC.set n ((dropAt sE 1 cE 3, cE - 1, q) : TE Pk)).set m (sq2, cq2, lm ++ [(((p1 : Int), (p2 : Int), (p3 : Int)) : Pk)])) k → k ≠ b1 := fun k hk => (ti3 k hk).elim (tn3_1 k) (fun h => by have := (B1).lt; omega)
    have tn4_2 : ∀ k, tb (some (⟨bT, oT, none⟩ : Addr)) ((TC.set n ((dropAt sE 1 cE 3, cE - 1, q) : TE Pk)).set m (sq2, cq2, lm ++ [(((p1 : Int), (p2 : Int), (p3 : Int)) : Pk)])) k → k ≠ b2 := fun k hk => (ti3 k hk).elim (tn3_2 k) (fun h => by have := (B2).lt; omega)
    have tn4_13 : ∀ k, tb (some (⟨bT, oT, none⟩ : Addr)) ((TC.set n ((dropAt sE 1 cE 3, cE - 1, q) : TE Pk)).set m (sq2, cq2, lm ++ [(((p1 : Int), (p2 : Int), (p3 : Int)) : Pk)])) k → k ≠ b13 := fun k hk => (ti3 k hk).elim (tn3_13 k) (fun h => by have := (Bs1).lt; omega)
    have tn4_1006 : ∀ k, tb (some (⟨bT, oT, none⟩ : Addr)) ((TC.set n ((dropAt sE 1 cE 3, cE - 1, q) : TE Pk)).set m (sq2, cq2, lm ++ [(((p1 : Int), (p2 : Int), (p3 : Int)) : Pk)])) k → k ≠ I6.1 := fun k hk => (ti3 k hk).elim (tn3_1006 k) (fun h => by have := (hB6).lt; omega)
    refine lx_nil ?_
    refine wk_seq ?_
    refine wk_region ?_
    refine lx_value (want rfl) (rn_loadBlk ag_24 sz_24 rfl (((((hB6.ne Es1 (by omega)).ext E2).fr E3 (fun h => nb1 _ (.inl h) rfl)).fr E5 (fun h => tn3_1006 _ (.inr ⟨_, _, heF, h⟩) rfl)).fr E6 (fun h => tn3_1006 _ (.inl h) rfl)) rfl rfl) ?_
    refine lx_set (want rfl) sz_24 rfl (t_agg rfl) rfl rfl rfl ((((((B2.ext E1).ne Es1 (by omega)).ext E2).fr E3 (fun h => tn2_2 _ (.inl h) rfl)).fr E5 (fun h => tn3_2 _ (.inr ⟨_, _, heF, h⟩) rfl)).fr E6 (fun h => tn3_2 _ (.inl h) rfl)) (Nat.le_of_ble_eq_true rfl) ?_
    intro w9 Es2 Bs2
    have F10 := F9.set Es2 (by omega)
    have hzs2 := Es2.size
    refine lx_value (want rfl) (as_slice rfl) ?_
    refine lx_nil ?_
    refine wk_ret ?_
    refine retR2 Tryd.results64 (.cell rfl (run_loadVar_blk ag_24 sz_24 Bs2 rfl rfl)) (.tmp (t_slice rfl)) F10 ?_
    exact moved_on hlt hm hlm (tab_cube (tw3.fr Es2 (fun k hk h => tn4_2 k hk h)) (set_map hTC2 _ _) tg4 (by simp))

set_option maxRecDepth 100000 in
theorem can_ct (dim : Nat) (hd : dim ≤ 3) (p1 p2 p3 : Int) (s port : Nat) (hs : s < 8) (hp : port ≤ dim) (w0 : World) :
    CT Tryd.prog 53 [.int .i64 dim, .agg #[.int .i64 p1, .int .i64 p2, .int .i64 p3], .int .i64 s, .int .i64 port] w0 no (fun v _ => v = .bool (canB dim (p1, p2, p3) s port)) := by
  have h28 := pow2_le dim (Nat.le_refl _) hd
  have F0 := Fr.refl no w0
  refine ct_body Tryd.func53 rfl Tryd.ntmps53 (Nat.le_of_ble_eq_true rfl) ?_
  refine wk_seq ?_
  refine wk_region ?_
  refine lx_new (want rfl) (rn_box (t_agg rfl)) ?_
  intro b1 w1 hb1 Eb1 B1 hlb1
  have F1 := F0.ext Eb1
  have hzb1 := Eb1.size
  refine lx_value (want rfl) (as_bool rfl) ?_
  refine lx_nil ?_
  refine wk_seq ?_
  refine wk_seq ?_
  refine wk_mix 20 (fun kS => match kS with | 7 => .val (.int .i64 ((2 ^ dim : Nat) : Int)) | 19 => .val (.int .i64 ((2 ^ dim : Nat) : Int)) | _ => .none) (by kernel_rfl) (by kernel_rfl) (by intro kS G hk; (try dsimp only at hk); (split at hk) <;> first | (cases hk; done) | (injection hk with hk; subst hk; exact ⟨by intro j hkj I v w w' hR hG; first | exact hG, fun ⟨_, _, _, _, hs⟩ => by (try dsimp only at hs); split at hs <;> cases hs⟩)) (by intro kS s y G hk; (try dsimp only at hk); split at hk <;> cases hk) ?_
  simp only [List.take_succ_cons, List.take_zero, List.take_nil, List.drop_succ_cons, List.drop_zero, List.drop_nil]
  refine mx_calm rfl (want rfl) (fun u1 eu1 fu1 => rn_fieldAddr fa_41_0 rfl) ?_
  refine mx_calm rfl (want rfl) (fun u2 eu2 fu2 => rn_load1Blk ag_3 rfl (B1.ext ((ext_drawn _).trans' eu2)) rfl) ?_
  refine mx_calm rfl (want rfl) (fun u3 eu3 fu3 => rn_lss rfl rfl) ?_
  refine mx_dec (fun h1 => ?_) (fun h1 => ?_)
  ·
    refine mx_calm rfl (want rfl) (fun u4 eu4 fu4 => mv_bool rfl) ?_
    refine mx_skip (want_if (j := 3) (d := 14) (x := false) (y := true) rfl rfl (by decide) rfl) ?_
    refine mx_skip (want_if (j := 3) (d := 14) (x := false) (y := true) rfl rfl (by decide) rfl) ?_
    refine mx_skip (want_if (j := 3) (d := 14) (x := false) (y := true) rfl rfl (by decide) rfl) ?_
    refine mx_skip (want_if (j := 3) (d := 14) (x := false) (y := true) rfl rfl (by decide) rfl) ?_
    refine mx_skip (want_if (j := 3) (d := 14) (x := false) (y := true) rfl rfl (by decide) rfl) ?_
    refine mx_calm rfl (want rfl) (fun u5 eu5 fu5 => pick_t rfl rfl) ?_
    refine mx_calm rfl (want rfl) (fun u6 eu6 fu6 => mv_bool rfl) ?_
    refine mx_skip (want_if (j := 10) (d := 21) (x := false) (y := true) rfl rfl (by decide) rfl) ?_
    refine mx_skip (want_if (j := 10) (d := 21) (x := false) (y := true) rfl rfl (by decide) rfl) ?_
    refine mx_skip (want_if (j := 10) (d := 21) (x := false) (y := true) rfl rfl (by decide) rfl) ?_
    refine mx_calm rfl (want rfl) (fun u7 eu7 fu7 => pick_t rfl rfl) ?_
    refine mx_calm rfl (want rfl) (fun u8 eu8 fu8 => mv_bool rfl) ?_
    refine mx_skip (want_if (j := 15) (d := 26) (x := false) (y := true) rfl rfl (by decide) rfl) ?_
    refine mx_skip (want_if (j := 15) (d := 26) (x := false) (y := true) rfl rfl (by decide) rfl) ?_
    refine mx_skip (want_if (j := 15) (d := 26) (x := false) (y := true) rfl rfl (by decide) rfl) ?_
    refine mx_skip (want_if (j := 15) (d := 26) (x := false) (y := true) rfl rfl (by decide) rfl) ?_
    refine mx_nil (fun w2 E1' H1 HS => ?_)
    have E1 := (ext_drawn _).trans' E1'
    have F2 := F1.ext E1
    have hz1 := E1.size
    refine lx_skip (want_if (j := 15) (d := 26) (x := false) (y := true) rfl rfl (by decide) rfl) ?_
    refine lx_value (want rfl) (pick_t rfl rfl) ?_
    refine lx_nil ?_
    refine wk_cond_t rfl ?_
    refine wk_seq ?_
    refine wk_region ?_
    refine lx_value (want rfl) (as_bool rfl) ?_
    refine lx_nil ?_
    refine wk_ret ?_
    refine retR1 Tryd.results53 (.tmp (t_bool rfl)) F2 ?_
    exact can_out (by simp only; omega)
  ·
    refine mx_calm rfl (want rfl) (fun u9 eu9 fu9 => mv_bool rfl) ?_
    refine mx_calm rfl (want_if (j := 3) (d := 14) (x := false) (y := false) rfl rfl (by decide) rfl) (fun u10 eu10 fu10 => rn_fieldAddr fa_41_0 rfl) ?_
    refine mx_calm rfl (want_if (j := 3) (d := 14) (x := false) (y := false) rfl rfl (by decide) rfl) (fun u11 eu11 fu11 => rn_load1Blk ag_3 rfl (B1.ext ((ext_drawn _).trans' eu11)) rfl) ?_
    refine mx_calm rfl (want_if (j := 3) (d := 14) (x := false) (y := false) rfl rfl (by decide) rfl) (fun u12 eu12 fu12 => mv_int rfl) ?_
    refine mx_val rfl (want_if (j := 3) (d := 14) (x := false) (y := false) rfl rfl (by decide) rfl) (fun u13 eu13 fu13 => do_call (ent_func cf_37 (argsC (t_int rfl) args0)) (switches_ct dim hd u13) (fun _ _ E h => ⟨E, h⟩)) ?_
    refine mx_calm rfl (want_if (j := 3) (d := 14) (x := false) (y := false) rfl rfl (by decide) rfl) (fun u14 eu14 fu14 => rn_geq rfl rfl) ?_
    refine mx_dec (fun h2 => ?_) (fun h2 => ?_)
    ·
      refine mx_calm rfl (want rfl) (fun u15 eu15 fu15 => pick_f rfl rfl) ?_
      refine mx_calm rfl (want rfl) (fun u16 eu16 fu16 => mv_bool rfl) ?_
      refine mx_skip (want_if (j := 10) (d := 21) (x := false) (y := true) rfl rfl (by decide) rfl) ?_
      refine mx_skip (want_if (j := 10) (d := 21) (x := false) (y := true) rfl rfl (by decide) rfl) ?_
      refine mx_skip (want_if (j := 10) (d := 21) (x := false) (y := true) rfl rfl (by decide) rfl) ?_
      refine mx_calm rfl (want rfl) (fun u17 eu17 fu17 => pick_t rfl rfl) ?_
      refine mx_calm rfl (want rfl) (fun u18 eu18 fu18 => mv_bool rfl) ?_
      refine mx_skip (want_if (j := 15) (d := 26) (x := false) (y := true) rfl rfl (by decide) rfl) ?_
      refine mx_skip (want_if (j := 15) (d := 26) (x := false) (y := true) rfl rfl (by decide) rfl) ?_
      refine mx_skip (want_if (j := 15) (d := 26) (x := false) (y := true) rfl rfl (by decide) rfl) ?_
      refine mx_skip (want_if (j := 15) (d := 26) (x := false) (y := true) rfl rfl (by decide) rfl) ?_
      refine mx_nil (fun w2 E2' H2 HS => ?_)
      have E2 := (ext_drawn _).trans' E2'
      have F3 := F1.ext E2
      have hz2 := E2.size
      refine lx_skip (want_if (j := 15) (d := 26) (x := false) (y := true) rfl rfl (by decide) rfl) ?_
      refine lx_value (want rfl) (pick_t rfl rfl) ?_
      refine lx_nil ?_
      refine wk_cond_t rfl ?_
      refine wk_seq ?_
      refine wk_region ?_
      refine lx_value (want rfl) (as_bool rfl) ?_
      refine lx_nil ?_
      refine wk_ret ?_
      refine retR1 Tryd.results53 (.tmp (t_bool rfl)) F3 ?_
      exact can_out (by simp only; omega)
    ·
      refine mx_calm rfl (want rfl) (fun u19 eu19 fu19 => pick_f rfl rfl) ?_
      refine mx_calm rfl (want rfl) (fun u20 eu20 fu20 => mv_bool rfl) ?_
      refine mx_calm rfl (want_if (j := 10) (d := 21) (x := false) (y := false) rfl rfl (by decide) rfl) (fun u21 eu21 fu21 => rn_fieldAddr fa_41_1 rfl) ?_
      refine mx_calm rfl (want_if (j := 10) (d := 21) (x := false) (y := false) rfl rfl (by decide) rfl) (fun u22 eu22 fu22 => rn_load1Blk ag_3 rfl (B1.ext ((ext_drawn _).trans' eu22)) rfl) ?_
      refine mx_calm rfl (want_if (j := 10) (d := 21) (x := false) (y := false) rfl rfl (by decide) rfl) (fun u23 eu23 fu23 => rn_lss rfl rfl) ?_
      refine mx_dec (fun h3 => ?_) (fun h3 => ?_)
      ·
        refine mx_calm rfl (want rfl) (fun u24 eu24 fu24 => pick_f rfl rfl) ?_
        refine mx_calm rfl (want rfl) (fun u25 eu25 fu25 => mv_bool rfl) ?_
        refine mx_skip (want_if (j := 15) (d := 26) (x := false) (y := true) rfl rfl (by decide) rfl) ?_
        refine mx_skip (want_if (j := 15) (d := 26) (x := false) (y := true) rfl rfl (by decide) rfl) ?_
        refine mx_skip (want_if (j := 15) (d := 26) (x := false) (y := true) rfl rfl (by decide) rfl) ?_
        refine mx_skip (want_if (j := 15) (d := 26) (x := false) (y := true) rfl rfl (by decide) rfl) ?_
        refine mx_nil (fun w2 E3' H3 HS => ?_)
        have E3 := (ext_drawn _).trans' E3'
        have F4 := F1.ext E3
        have hz3 := E3.size
        refine lx_skip (want_if (j := 15) (d := 26) (x := false) (y := true) rfl rfl (by decide) rfl) ?_
        refine lx_value (want rfl) (pick_t rfl rfl) ?_
        refine lx_nil ?_
        refine wk_cond_t rfl ?_
        refine wk_seq ?_
        refine wk_region ?_
        refine lx_value (want rfl) (as_bool rfl) ?_
        refine lx_nil ?_
        refine wk_ret ?_
        refine retR1 Tryd.results53 (.tmp (t_bool rfl)) F4 ?_
        exact can_out (by simp only; omega)
      ·
        refine mx_calm rfl (want rfl) (fun u26 eu26 fu26 => pick_f rfl rfl) ?_
        refine mx_calm rfl (want rfl) (fun u27 eu27 fu27 => mv_bool rfl) ?_
        refine mx_calm rfl (want_if (j := 15) (d := 26) (x := false) (y := false) rfl rfl (by decide) rfl) (fun u28 eu28 fu28 => rn_fieldAddr fa_41_1 rfl) ?_
        refine mx_calm rfl (want_if (j := 15) (d := 26) (x := false) (y := false) rfl rfl (by decide) rfl) (fun u29 eu29 fu29 => rn_load1Blk ag_3 rfl (B1.ext ((ext_drawn _).trans' eu29)) rfl) ?_
        refine mx_calm rfl (want_if (j := 15) (d := 26) (x := false) (y := false) rfl rfl (by decide) rfl) (fun u30 eu30 fu30 => mv_int rfl) ?_
        refine mx_val rfl (want_if (j := 15) (d := 26) (x := false) (y := false) rfl rfl (by decide) rfl) (fun u31 eu31 fu31 => do_call (ent_func cf_37 (argsC (t_int rfl) args0)) (switches_ct dim hd u31) (fun _ _ E h => ⟨E, h⟩)) ?_
        refine mx_nil (fun w2 E4' H4 HS => ?_)
        have E4 := (ext_drawn _).trans' E4'
        have F5 := F1.ext E4
        have hz4 := E4.size
        refine lx_value (want_if (j := 15) (d := 26) (x := false) (y := false) rfl rfl (by decide) rfl) (rn_geq rfl rfl) ?_
        refine lx_dec (fun h4 => ?_) (fun h4 => ?_)
        ·
          refine lx_value (want rfl) (pick_f rfl rfl) ?_
          refine lx_nil ?_
          refine wk_cond_t rfl ?_
          refine wk_seq ?_
          refine wk_region ?_
          refine lx_value (want rfl) (as_bool rfl) ?_
          refine lx_nil ?_
          refine wk_ret ?_
          refine retR1 Tryd.results53 (.tmp (t_bool rfl)) F5 ?_
          exact can_out (by simp only; omega)
        ·
          obtain ⟨pa, rfl⟩ : ∃ k : Nat, p1 = (k : Int) := ⟨p1.toNat, by omega⟩
          obtain ⟨pb, rfl⟩ : ∃ k : Nat, p2 = (k : Int) := ⟨p2.toNat, by omega⟩
          have hwl := way_len pa pb
          refine lx_value (want rfl) (pick_f rfl rfl) ?_
          refine lx_nil ?_
          refine wk_cond_f rfl ?_
          refine wk_skip ?_
          refine wk_seq ?_
          refine wk_seq ?_
          refine wk_region ?_
          refine lx_value (want rfl) (mv_int rfl) ?_
          refine lx_value (want rfl) (mv_int rfl) ?_
          refine lx_value (want rfl) (rn_eql rfl rfl) ?_
          refine lx_dec (fun h5 => ?_) (fun h5 => ?_)
          ·
            refine lx_nil ?_
            refine wk_cond_t rfl ?_
            refine wk_seq ?_
            refine wk_region ?_
            refine lx_value (want rfl) (rn_fieldAddr fa_41_0 rfl) ?_
            refine lx_value (want rfl) (rn_load1Blk ag_3 rfl (B1.ext E4) rfl) ?_
            refine lx_value (want rfl) (mv_int rfl) ?_
            refine lx_value (want rfl) (rn_eql rfl rfl) ?_
            refine lx_value (want rfl) (as_bool rfl) ?_
            refine lx_nil ?_
            refine wk_ret ?_
            refine retR1 Tryd.results53 (.tmp (t_bool rfl)) F5 ?_
            exact can_home (by omega) (by omega) h5
          ·
            refine lx_nil ?_
            refine wk_cond_f rfl ?_
            refine wk_skip ?_
            refine wk_seq ?_
            refine wk_region ?_
            refine lx_value (want rfl) (rn_fieldAddr fa_41_0 rfl) ?_
            refine lx_value (want rfl) (rn_load1Blk ag_3 rfl (B1.ext E4) rfl) ?_
            refine lx_value (want rfl) (rn_fieldAddr fa_41_1 rfl) ?_
            refine lx_value (want rfl) (rn_load1Blk ag_3 rfl (B1.ext E4) rfl) ?_
            refine lx_call (want rfl) (ent_func cf_50 (argsC (t_int rfl) (argsC (t_int rfl) args0))) (walk_ct pa pb (by omega) (by omega) w2) ?_
            rintro vW w3 E5 ⟨sW, cW, rfl, hW⟩
            have F6 := F5.ext E5
            have hz5 := E5.size
            refine lx_value (want rfl) (as_slice rfl) ?_
            refine lx_nil ?_
            refine wk_seq ?_
            refine wk_seq ?_
            refine wk_region ?_
            refine lx_value (want rfl) (as_int rfl) ?_
            refine lx_nil ?_
            refine wk_block ?_
            refine wk_loopA [8, 10, 45, 46, 47, 48, 49, 50, 51, 52, 53, 54, 55, 56, 57, 58, 59, 60, 61, 62, 63, 64, 65, 66, 67] no (fun nM ρ w => ∃ (i : Nat), nM = (wayL pa pb).length - i ∧ ρ 10 = .int .i64 i ∧ (1 ≤ i) ∧ (noHop (wayL pa pb) s (overN s port) i)) _ ⟨1, rfl, rfl, by omega, (fun j h1 h2 => by omega)⟩ ?_
            rintro n1 ρ1 w4 A1 EL1 ⟨i, rfl, hs1_10, hi, hq⟩
            have F7 := F6.ext EL1
            have hzL1 := EL1.size
            refine wk_seq ?_
            refine wk_seq ?_
            refine wk_region ?_
            refine lx_value (want rfl) (mv_int hs1_10) ?_
            refine lx_value (want rfl) (mv_slice (A1.at 9 rfl rfl)) ?_
            refine lx_value (want rfl) (rn_len Tryd.underlying28 rfl) ?_
            refine lx_value (want rfl) (rn_lss rfl rfl) ?_
            refine lx_dec (fun hlt => ?_) (fun hlt => ?_)
            ·
              obtain ⟨x, hx⟩ := getx hlt
              obtain ⟨y, hy⟩ : ∃ y, (wayL pa pb)[i - 1]? = some y := getx (by omega)
              obtain ⟨bx, ox, rfl, _, hcx⟩ := hW i x hx
              have hcy := hW.get hy
              refine lx_nil ?_
              refine wk_cond_t rfl ?_
              refine wk_skip ?_
              refine wk_seq ?_
              refine wk_block ?_
              refine wk_seq ?_
              refine wk_mix 15 (fun kS => match kS with | 14 => .val (.int .i64 ((overN s port : Nat) : Int)) | _ => .none) (by kernel_rfl) (by kernel_rfl) (by intro kS G hk; (try dsimp only at hk); (split at hk) <;> first | (cases hk; done) | (injection hk with hk; subst hk; exact ⟨by intro j hkj I v w w' hR hG; first | exact hG, fun ⟨_, _, _, _, hs⟩ => by (try dsimp only at hs); split at hs <;> cases hs⟩)) (by intro kS s y G hk; (try dsimp only at hk); split at hk <;> cases hk) ?_
              simp only [List.take_succ_cons, List.take_zero, List.take_nil, List.drop_succ_cons, List.drop_zero, List.drop_nil]
              refine mx_calm rfl (want rfl) (fun u32 eu32 fu32 => mv_slice (A1.at 9 rfl rfl)) ?_
              refine mx_calm rfl (want rfl) (fun u33 eu33 fu33 => mv_int hs1_10) ?_
              refine mx_calm rfl (want rfl) (fun u34 eu34 fu34 => rn_index _ Tryd.underlying28 sz_3 rfl rfl rfl (by omega)) ?_
              refine mx_calm rfl (want rfl) (fun u35 eu35 fu35 => rn_load1 ag_3 rfl ((((Fr.refl no w3).trans' EL1).trans' ((ext_drawn _).trans' eu35)).cell (fun h => h) (hcx 0 _ rfl))) ?_
              refine mx_calm rfl (want rfl) (fun u36 eu36 fu36 => mv_int (A1.at 2 rfl rfl)) ?_
              refine mx_calm rfl (want rfl) (fun u37 eu37 fu37 => rn_eql rfl rfl) ?_
              refine mx_dec (fun h6 => ?_) (fun h6 => ?_)
              ·
                refine mx_calm rfl (want rfl) (fun u38 eu38 fu38 => mv_bool rfl) ?_
                refine mx_calm rfl (want_if (j := 6) (d := 57) (x := true) (y := true) rfl rfl (by decide) rfl) (fun u39 eu39 fu39 => mv_slice (A1.at 9 rfl rfl)) ?_
                refine mx_calm rfl (want_if (j := 6) (d := 57) (x := true) (y := true) rfl rfl (by decide) rfl) (fun u40 eu40 fu40 => mv_int hs1_10) ?_
                refine mx_calm rfl (want_if (j := 6) (d := 57) (x := true) (y := true) rfl rfl (by decide) rfl) (fun u41 eu41 fu41 => rn_subN rfl (n := 1) rfl (by omega)) ?_
                refine mx_calm rfl (want_if (j := 6) (d := 57) (x := true) (y := true) rfl rfl (by decide) rfl) (fun u42 eu42 fu42 => rn_index _ Tryd.underlying28 sz_3 rfl rfl rfl (by omega)) ?_
                refine mx_calm rfl (want_if (j := 6) (d := 57) (x := true) (y := true) rfl rfl (by decide) rfl) (fun u43 eu43 fu43 => rn_load1 ag_3 rfl ((((Fr.refl no w3).trans' EL1).trans' ((ext_drawn _).trans' eu43)).cell (fun h => h) (hcy 0 _ rfl))) ?_
                refine mx_calm rfl (want_if (j := 6) (d := 57) (x := true) (y := true) rfl rfl (by decide) rfl) (fun u44 eu44 fu44 => mv_int (A1.at 2 rfl rfl)) ?_
                refine mx_calm rfl (want_if (j := 6) (d := 57) (x := true) (y := true) rfl rfl (by decide) rfl) (fun u45 eu45 fu45 => mv_int (A1.at 3 rfl rfl)) ?_
                refine mx_val rfl (want_if (j := 6) (d := 57) (x := true) (y := true) rfl rfl (by decide) rfl) (fun u46 eu46 fu46 => do_call (ent_func cf_78 (argsC (t_int rfl) (argsC (t_int rfl) args0))) (over_ct s port hs (by omega) u46) (fun _ _ E h => ⟨E, h⟩)) ?_
                refine mx_nil (fun w5 E6' H5 HS => ?_)
                have E6 := (ext_drawn _).trans' E6'
                have F8 := F7.ext E6
                have hz6 := E6.size
                refine lx_value (want_if (j := 6) (d := 57) (x := true) (y := true) rfl rfl (by decide) rfl) (rn_eql rfl rfl) ?_
                refine lx_dec (fun h7 => ?_) (fun h7 => ?_)
                ·
                  refine lx_value (want rfl) (pick_t rfl rfl) ?_
                  refine lx_nil ?_
                  refine wk_cond_t rfl ?_
                  refine wk_seq ?_
                  refine wk_region ?_
                  refine lx_value (want rfl) (as_bool rfl) ?_
                  refine lx_nil ?_
                  refine wk_ret ?_
                  refine retR1 Tryd.results53 (.tmp (t_bool rfl)) F8 ?_
                  rw [can_way (by omega) (by omega) h5, hop_yes hi hx hy h6 h7]
                ·
                  refine lx_value (want rfl) (pick_t rfl rfl) ?_
                  refine lx_nil ?_
                  refine wk_cond_f rfl ?_
                  refine wk_skip ?_
                  refine wk_region ?_
                  refine lx_value (want rfl) (mv_int hs1_10) ?_
                  refine lx_value (want rfl) (rn_add rfl rfl (by omega)) ?_
                  refine lx_value (want rfl) (as_int rfl) ?_
                  refine lx_nil ?_
                  exact ⟨rfl, ((((((((((((((((((((((((A1.up rfl _).up rfl _).up rfl _).up rfl _).up rfl _).up rfl _).up rfl _).up rfl _).up rfl _).up rfl _).up rfl _).up rfl _).up rfl _).up rfl _).up rfl _).up rfl _).up rfl _).up rfl _).up rfl _).up rfl _).up rfl _).up rfl _).up rfl _).up rfl _), (Fr.ext EL1 E6), _, (by omega), i + 1, rfl, rfl, by omega, (noHop_step hq hx hy (fun h => by first | exact h6 h.1 | exact h7 h.2))⟩
              ·
                refine mx_calm rfl (want rfl) (fun u47 eu47 fu47 => mv_bool rfl) ?_
                refine mx_skip (want_if (j := 6) (d := 57) (x := true) (y := false) rfl rfl (by decide) rfl) ?_
                refine mx_skip (want_if (j := 6) (d := 57) (x := true) (y := false) rfl rfl (by decide) rfl) ?_
                refine mx_skip (want_if (j := 6) (d := 57) (x := true) (y := false) rfl rfl (by decide) rfl) ?_
                refine mx_skip (want_if (j := 6) (d := 57) (x := true) (y := false) rfl rfl (by decide) rfl) ?_
                refine mx_skip (want_if (j := 6) (d := 57) (x := true) (y := false) rfl rfl (by decide) rfl) ?_
                refine mx_skip (want_if (j := 6) (d := 57) (x := true) (y := false) rfl rfl (by decide) rfl) ?_
                refine mx_skip (want_if (j := 6) (d := 57) (x := true) (y := false) rfl rfl (by decide) rfl) ?_
                refine mx_skip (want_if (j := 6) (d := 57) (x := true) (y := false) rfl rfl (by decide) rfl) ?_
                refine mx_nil (fun w5 E7' H6 HS => ?_)
                have E7 := (ext_drawn _).trans' E7'
                have F9 := F7.ext E7
                have hz7 := E7.size
                refine lx_skip (want_if (j := 6) (d := 57) (x := true) (y := false) rfl rfl (by decide) rfl) ?_
                refine lx_value (want rfl) (pick_f rfl rfl) ?_
                refine lx_nil ?_
                refine wk_cond_f rfl ?_
                refine wk_skip ?_
                refine wk_region ?_
                refine lx_value (want rfl) (mv_int hs1_10) ?_
                refine lx_value (want rfl) (rn_add rfl rfl (by omega)) ?_
                refine lx_value (want rfl) (as_int rfl) ?_
                refine lx_nil ?_
                exact ⟨rfl, ((((((((((((((((((((((((A1.up rfl _).up rfl _).up rfl _).up rfl _).up rfl _).up rfl _).up rfl _).up rfl _).up rfl _).up rfl _).up rfl _).up rfl _).up rfl _).up rfl _).up rfl _).up rfl _).up rfl _).up rfl _).up rfl _).up rfl _).up rfl _).up rfl _).up rfl _).up rfl _), (Fr.ext EL1 E7), _, (by omega), i + 1, rfl, rfl, by omega, (noHop_step hq hx hy (fun h => by first | exact h6 h.1 | exact h7 h.2))⟩
            ·
              refine lx_nil ?_
              refine wk_cond_f rfl ?_
              refine wk_exit ?_
              refine wk_seq ?_
              refine wk_region ?_
              refine lx_value (want rfl) (as_bool rfl) ?_
              refine lx_nil ?_
              refine wk_ret ?_
              refine retR1 Tryd.results53 (.tmp (t_bool rfl)) F7 ?_
              rw [can_way (by omega) (by omega) h5, hop_no hq hlt]

theorem way_ct (d a b : Int) (w0 : World) :
    CT Tryd.prog 18 [.int .i64 d, .int .i64 a, .int .i64 b] w0 no (fun v w => WayQ w0.heap.size d a b v w) := by
  have F0 := Fr.refl no w0
  refine ct_body Tryd.func18 rfl Tryd.ntmps18 (Nat.le_of_ble_eq_true rfl) ?_
  refine wk_seq ?_
  refine wk_region ?_
  refine lx_value (want rfl) (as_slice rfl) ?_
  refine lx_value (want rfl) (as_int rfl) ?_
  refine lx_nil ?_
  refine wk_seq ?_
  refine wk_seq ?_
  refine wk_region ?_
  refine lx_value (want rfl) (mv_int rfl) ?_
  refine lx_value (want rfl) (rn_lss rfl rfl) ?_
  refine lx_dec (fun h1 => ?_) (fun h1 => ?_)
  ·
    refine lx_value (want rfl) (mv_bool rfl) ?_
    refine lx_skip (want_if (j := 2) (d := 10) (x := false) (y := true) rfl rfl (by decide) rfl) ?_
    refine lx_skip (want_if (j := 2) (d := 10) (x := false) (y := true) rfl rfl (by decide) rfl) ?_
    refine lx_value (want rfl) (pick_t rfl rfl) ?_
    refine lx_nil ?_
    refine wk_cond_t rfl ?_
    refine wk_seq ?_
    refine wk_region ?_
    refine lx_value (want rfl) (as_slice rfl) ?_
    refine lx_value (want rfl) (as_int rfl) ?_
    refine lx_nil ?_
    refine wk_ret ?_
    refine retR2 Tryd.results18 (.tmp (t_slice rfl)) (.tmp (t_int rfl)) F0 ?_
    exact way_none (way_range (by omega)) (by decide)
  ·
    refine lx_value (want rfl) (mv_bool rfl) ?_
    refine lx_value (want_if (j := 2) (d := 10) (x := false) (y := false) rfl rfl (by decide) rfl) (mv_int rfl) ?_
    refine lx_value (want_if (j := 2) (d := 10) (x := false) (y := false) rfl rfl (by decide) rfl) (rn_gtr rfl rfl) ?_
    refine lx_dec (fun h2 => ?_) (fun h2 => ?_)
    ·
      refine lx_value (want rfl) (pick_f rfl rfl) ?_
      refine lx_nil ?_
      refine wk_cond_t rfl ?_
      refine wk_seq ?_
      refine wk_region ?_
      refine lx_value (want rfl) (as_slice rfl) ?_
      refine lx_value (want rfl) (as_int rfl) ?_
      refine lx_nil ?_
      refine wk_ret ?_
      refine retR2 Tryd.results18 (.tmp (t_slice rfl)) (.tmp (t_int rfl)) F0 ?_
      exact way_none (way_range (by omega)) (by decide)
    ·
      obtain ⟨dim, rfl⟩ : ∃ k : Nat, d = (k : Int) := ⟨d.toNat, by omega⟩
      have hd : dim ≤ 3 := by omega
      have h28 := pow2_le dim (Nat.le_refl _) hd
      refine lx_value (want rfl) (pick_f rfl rfl) ?_
      refine lx_nil ?_
      refine wk_cond_f rfl ?_
      refine wk_skip ?_
      refine wk_seq ?_
      refine wk_seq ?_
      refine wk_region ?_
      refine lx_value (want rfl) (mv_int rfl) ?_
      refine lx_value (want rfl) (rn_lss rfl rfl) ?_
      refine lx_dec (fun h3 => ?_) (fun h3 => ?_)
      ·
        refine lx_value (want rfl) (mv_bool rfl) ?_
        refine lx_skip (want_if (j := 2) (d := 16) (x := false) (y := true) rfl rfl (by decide) rfl) ?_
        refine lx_skip (want_if (j := 2) (d := 16) (x := false) (y := true) rfl rfl (by decide) rfl) ?_
        refine lx_skip (want_if (j := 2) (d := 16) (x := false) (y := true) rfl rfl (by decide) rfl) ?_
        refine lx_skip (want_if (j := 2) (d := 16) (x := false) (y := true) rfl rfl (by decide) rfl) ?_
        refine lx_value (want rfl) (pick_t rfl rfl) ?_
        refine lx_value (want rfl) (mv_bool rfl) ?_
        refine lx_skip (want_if (j := 8) (d := 22) (x := false) (y := true) rfl rfl (by decide) rfl) ?_
        refine lx_skip (want_if (j := 8) (d := 22) (x := false) (y := true) rfl rfl (by decide) rfl) ?_
        refine lx_value (want rfl) (pick_t rfl rfl) ?_
        refine lx_value (want rfl) (mv_bool rfl) ?_
        refine lx_skip (want_if (j := 12) (d := 26) (x := false) (y := true) rfl rfl (by decide) rfl) ?_
        refine lx_skip (want_if (j := 12) (d := 26) (x := false) (y := true) rfl rfl (by decide) rfl) ?_
        refine lx_skip (want_if (j := 12) (d := 26) (x := false) (y := true) rfl rfl (by decide) rfl) ?_
        refine lx_skip (want_if (j := 12) (d := 26) (x := false) (y := true) rfl rfl (by decide) rfl) ?_
        refine lx_value (want rfl) (pick_t rfl rfl) ?_
        refine lx_nil ?_
        refine wk_cond_t rfl ?_
        refine wk_seq ?_
        refine wk_region ?_
        refine lx_value (want rfl) (as_slice rfl) ?_
        refine lx_value (want rfl) (as_int rfl) ?_
        refine lx_nil ?_
        refine wk_ret ?_
        refine retR2 Tryd.results18 (.tmp (t_slice rfl)) (.tmp (t_int rfl)) F0 ?_
        exact way_none (way_no (by omega) (by omega)) (by decide)
      ·
        refine lx_value (want rfl) (mv_bool rfl) ?_
        refine lx_value (want_if (j := 2) (d := 16) (x := false) (y := false) rfl rfl (by decide) rfl) (mv_int rfl) ?_
        refine lx_value (want_if (j := 2) (d := 16) (x := false) (y := false) rfl rfl (by decide) rfl) (mv_int rfl) ?_
        refine lx_call (want_if (j := 2) (d := 16) (x := false) (y := false) rfl rfl (by decide) rfl) (ent_func cf_37 (argsC (t_int rfl) args0)) (switches_ct dim hd w0) ?_
        rintro _ w1 E1 rfl
        have F1 := F0.ext E1
        have hz1 := E1.size
        refine lx_value (want_if (j := 2) (d := 16) (x := false) (y := false) rfl rfl (by decide) rfl) (rn_geq rfl rfl) ?_
        refine lx_dec (fun h4 => ?_) (fun h4 => ?_)
        ·
          refine lx_value (want rfl) (pick_f rfl rfl) ?_
          refine lx_value (want rfl) (mv_bool rfl) ?_
          refine lx_skip (want_if (j := 8) (d := 22) (x := false) (y := true) rfl rfl (by decide) rfl) ?_
          refine lx_skip (want_if (j := 8) (d := 22) (x := false) (y := true) rfl rfl (by decide) rfl) ?_
          refine lx_value (want rfl) (pick_t rfl rfl) ?_
          refine lx_value (want rfl) (mv_bool rfl) ?_
          refine lx_skip (want_if (j := 12) (d := 26) (x := false) (y := true) rfl rfl (by decide) rfl) ?_
          refine lx_skip (want_if (j := 12) (d := 26) (x := false) (y := true) rfl rfl (by decide) rfl) ?_
          refine lx_skip (want_if (j := 12) (d := 26) (x := false) (y := true) rfl rfl (by decide) rfl) ?_
          refine lx_skip (want_if (j := 12) (d := 26) (x := false) (y := true) rfl rfl (by decide) rfl) ?_
          refine lx_value (want rfl) (pick_t rfl rfl) ?_
          refine lx_nil ?_
          refine wk_cond_t rfl ?_
          refine wk_seq ?_
          refine wk_region ?_
          refine lx_value (want rfl) (as_slice rfl) ?_
          refine lx_value (want rfl) (as_int rfl) ?_
          refine lx_nil ?_
          refine wk_ret ?_
          refine retR2 Tryd.results18 (.tmp (t_slice rfl)) (.tmp (t_int rfl)) F1 ?_
          exact way_none (way_no (by omega) (by omega)) (by decide)
        ·
          refine lx_value (want rfl) (pick_f rfl rfl) ?_
          refine lx_value (want rfl) (mv_bool rfl) ?_
          refine lx_value (want_if (j := 8) (d := 22) (x := false) (y := false) rfl rfl (by decide) rfl) (mv_int rfl) ?_
          refine lx_value (want_if (j := 8) (d := 22) (x := false) (y := false) rfl rfl (by decide) rfl) (rn_lss rfl rfl) ?_
          refine lx_dec (fun h5 => ?_) (fun h5 => ?_)
          ·
            refine lx_value (want rfl) (pick_f rfl rfl) ?_
            refine lx_value (want rfl) (mv_bool rfl) ?_
            refine lx_skip (want_if (j := 12) (d := 26) (x := false) (y := true) rfl rfl (by decide) rfl) ?_
            refine lx_skip (want_if (j := 12) (d := 26) (x := false) (y := true) rfl rfl (by decide) rfl) ?_
            refine lx_skip (want_if (j := 12) (d := 26) (x := false) (y := true) rfl rfl (by decide) rfl) ?_
            refine lx_skip (want_if (j := 12) (d := 26) (x := false) (y := true) rfl rfl (by decide) rfl) ?_
            refine lx_value (want rfl) (pick_t rfl rfl) ?_
            refine lx_nil ?_
            refine wk_cond_t rfl ?_
            refine wk_seq ?_
            refine wk_region ?_
            refine lx_value (want rfl) (as_slice rfl) ?_
            refine lx_value (want rfl) (as_int rfl) ?_
            refine lx_nil ?_
            refine wk_ret ?_
            refine retR2 Tryd.results18 (.tmp (t_slice rfl)) (.tmp (t_int rfl)) F1 ?_
            exact way_none (way_no (by omega) (by omega)) (by decide)
          ·
            refine lx_value (want rfl) (pick_f rfl rfl) ?_
            refine lx_value (want rfl) (mv_bool rfl) ?_
            refine lx_value (want_if (j := 12) (d := 26) (x := false) (y := false) rfl rfl (by decide) rfl) (mv_int rfl) ?_
            refine lx_value (want_if (j := 12) (d := 26) (x := false) (y := false) rfl rfl (by decide) rfl) (mv_int rfl) ?_
            refine lx_call (want_if (j := 12) (d := 26) (x := false) (y := false) rfl rfl (by decide) rfl) (ent_func cf_37 (argsC (t_int rfl) args0)) (switches_ct dim hd w1) ?_
            rintro _ w2 E2 rfl
            have F2 := F1.ext E2
            have hz2 := E2.size
            refine lx_value (want_if (j := 12) (d := 26) (x := false) (y := false) rfl rfl (by decide) rfl) (rn_geq rfl rfl) ?_
            refine lx_dec (fun h6 => ?_) (fun h6 => ?_)
            ·
              refine lx_value (want rfl) (pick_f rfl rfl) ?_
              refine lx_nil ?_
              refine wk_cond_t rfl ?_
              refine wk_seq ?_
              refine wk_region ?_
              refine lx_value (want rfl) (as_slice rfl) ?_
              refine lx_value (want rfl) (as_int rfl) ?_
              refine lx_nil ?_
              refine wk_ret ?_
              refine retR2 Tryd.results18 (.tmp (t_slice rfl)) (.tmp (t_int rfl)) F2 ?_
              exact way_none (way_no (by omega) (by omega)) (by decide)
            ·
              obtain ⟨pa, rfl⟩ : ∃ k : Nat, a = (k : Int) := ⟨a.toNat, by omega⟩
              obtain ⟨pb, rfl⟩ : ∃ k : Nat, b = (k : Int) := ⟨b.toNat, by omega⟩
              refine lx_value (want rfl) (pick_f rfl rfl) ?_
              refine lx_nil ?_
              refine wk_cond_f rfl ?_
              refine wk_skip ?_
              refine wk_seq ?_
              refine wk_region ?_
              refine lx_value (want rfl) (mv_int rfl) ?_
              refine lx_value (want rfl) (mv_int rfl) ?_
              refine lx_call (want rfl) (ent_func cf_50 (argsC (t_int rfl) (argsC (t_int rfl) args0))) (walk_ct pa pb (by omega) (by omega) w2) ?_
              rintro vW w3 E3 ⟨sW, cW, rfl, hW⟩
              have F3 := F2.ext E3
              have hz3 := E3.size
              refine lx_value (want rfl) (as_slice rfl) ?_
              refine lx_value (want rfl) (as_int rfl) ?_
              refine lx_nil ?_
              refine wk_ret ?_
              refine retR2 Tryd.results18 (.tmp (t_slice rfl)) (.tmp (t_int rfl)) F3 ?_
              exact way_ok hd (by omega) (by omega) (IntR.wide ⟨sW, cW, rfl, hW⟩ (by omega))

end Go.Proofs.YtlfclnkoimfhmaaDoor

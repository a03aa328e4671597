/- What functions of the cube compute: copy, spots1, packets, ints, thin, indexp, index, bit, many, ones64, clone, switches, within1, cbuffer, tz64, cway. -/
import Derived.Test.YtlfclnkoimfhmaaDoorFacts
import Derived.Test.YtlfclnkoimfhmaaDoorPre
set_option linter.unusedVariables false
set_option linter.unusedSimpArgs false
namespace Go.Proofs.YtlfclnkoimfhmaaDoor
open Go Go.RowKit Go.Mix Go.Eng
theorem copy_ct (d r : Int) (L : List (List Pk)) (s : Option Addr) (c : Nat) (G : Nat → Prop) (hB : Bd L) (w0 : World) (hL : BufS G w0 s L) :
    CT Tryd.prog 23 [.agg #[.int .i64 d, .int .i64 r, .slice s L.length c]] w0 no (fun v w => CubeT w0.heap.size w v d r L) := by
  have hBl := hB.1
  have F0 := Fr.refl no w0
  refine ct_body Tryd.func23 rfl Tryd.ntmps23 (Nat.le_of_ble_eq_true rfl) ?_
  refine wk_seq ?_
  refine wk_region ?_
  refine lx_new (want rfl) (rn_box (t_agg rfl)) ?_
  intro b1 w1 hb1 Eb1 B1 hlb1
  have F1 := F0.ext Eb1
  have hzb1 := Eb1.size
  refine lx_new (want rfl) (rn_alloc ze_24) ?_
  intro b2 w2 hb2 Eb2 B2 hlb2
  have F2 := F1.ext Eb2
  have hzb2 := Eb2.size
  refine lx_nil ?_
  refine wk_seq ?_
  refine wk_region ?_
  refine lx_value (want rfl) (rn_fieldAddr fa_24_0 rfl) ?_
  refine lx_value (want rfl) (rn_load1Blk ag_3 rfl (B1.ext Eb2) rfl) ?_
  refine lx_value (want rfl) (rn_fieldAddr fa_24_1 rfl) ?_
  refine lx_value (want rfl) (rn_load1Blk ag_3 rfl (B1.ext Eb2) rfl) ?_
  refine lx_value (want rfl) (rn_build2 (t_int rfl) (t_int rfl) (fun w => bd_24_0_1 _ _ w)) ?_
  refine lx_new (want rfl) (rn_alloc ze_24) ?_
  intro b3 w3 hb3 Eb3 B3 hlb3
  have F3 := F2.ext Eb3
  have hzb3 := Eb3.size
  refine lx_set (want rfl) sz_24 rfl (t_agg rfl) rfl rfl rfl B3 (Nat.le_of_ble_eq_true rfl) ?_
  intro w4 Es1 Bs1
  have F4 := F3.set Es1 (by omega)
  have hzs1 := Es1.size
  refine lx_nil ?_
  refine wk_seq ?_
  refine wk_seq ?_
  refine wk_region ?_
  refine lx_value (want rfl) (as_int rfl) ?_
  refine lx_nil ?_
  refine wk_block ?_
  refine wk_loopA [4, 10, 11, 12, 13, 14, 15, 16, 17, 18, 19, 20, 21, 22, 23, 24, 25, 26, 27] (fun j => no j ∨ w0.heap.size ≤ j) (fun nM ρ w => ∃ (i : Nat) (st1_1 : Option Addr) (ct1_1 : Nat) (TT1_1 : List (TE Pk)), nM = L.length - i ∧ ρ 4 = .int .i64 i ∧ Blk w b1 (cellsOf B1) 24 ∧ Blk w b2 (cellsOf B2) 24 ∧ Blk w b3 [.int .i64 d, .int .i64 r, .slice st1_1 TT1_1.length ct1_1] 24 ∧ Tab w 49 41 3 pkC st1_1 ct1_1 TT1_1 ∧ (∀ k, tb st1_1 TT1_1 k → w0.heap.size ≤ k) ∧ (∀ k, tb st1_1 TT1_1 k → k ≠ b1) ∧ (∀ k, tb st1_1 TT1_1 k → k ≠ b2) ∧ (∀ k, tb st1_1 TT1_1 k → k ≠ b3) ∧ (i ≤ L.length) ∧ (TT1_1.map (·.2.2) = L.take i)) _ ⟨0, none, 0, ([] : List (TE Pk)), rfl, rfl, (((B1.ext Eb2).ext Eb3).ne Es1 (by omega)), ((B2.ext Eb3).ne Es1 (by omega)), Bs1, (Tab.nil w4 49 41 3 pkC), (fun _ h => tb_nil h), (fun _ h => tb_nil h), (fun _ h => tb_nil h), (fun _ h => tb_nil h), by omega, rfl⟩ ?_
  rintro n1 ρ1 w5 A1 EL1 ⟨i, st1_1, ct1_1, TT1_1, rfl, hs1_4, BL1_1, BL1_2, BL1_3, tw1L_1, tg1L_1, tn1L_1_1, tn1L_1_2, tn1L_1_3, hi, hT⟩
  have F5 := F4.wide EL1
  have hzL1 := EL1.size
  refine wk_seq ?_
  refine wk_seq ?_
  refine wk_region ?_
  refine lx_value (want rfl) (mv_int hs1_4) ?_
  refine lx_value (want rfl) (rn_fieldAddr fa_24_2 (A1.at 1 rfl rfl)) ?_
  refine lx_value (want rfl) (rn_load1Blk ag_22 rfl BL1_1 rfl) ?_
  refine lx_value (want rfl) (rn_len Tryd.underlying22 rfl) ?_
  refine lx_value (want rfl) (rn_lss rfl rfl) ?_
  refine lx_dec (fun hlt => ?_) (fun hlt => ?_)
  ·
    obtain ⟨l, hl⟩ := getx hlt
    obtain ⟨bx, ox, rfl, _, sx, cx, hcx, hpx⟩ := hL i l hl
    refine lx_nil ?_
    refine wk_cond_t rfl ?_
    refine wk_skip ?_
    refine wk_seq ?_
    refine wk_block ?_
    have hTo := tw1L_1
    have hSl : ∀ k, (ob st1_1) k → k < w5.heap.size := fun k h => (tw1L_1).lt (.inl h)
    refine wk_mixA 11 9 (ob st1_1) (fun kS => match kS with | 7 => .any (fun I v w => ∃ s c, v = .slice s l.length c ∧ OwnS w 41 3 s l.length c (l.flatMap pkC) ∧ ∀ k, ob s k → w5.heap.size ≤ k) | 8 => .any (fun I v w => ∃ b s c, v = .slice (some ⟨b, 0, none⟩) 1 1 ∧ w5.heap.size ≤ b ∧ Blk w b [.slice s l.length c] 49 ∧ OwnS w 41 3 s l.length c (l.flatMap pkC) ∧ ∀ k, ob s k → w5.heap.size ≤ k) | 9 => .any (fun I v w => ∃ (e : TE Pk) (s : Option Addr) (c : Nat), v = .slice s (TT1_1 ++ [e]).length c ∧ e.2.2 = l ∧ Tab w 49 41 3 pkC s c (TT1_1 ++ [e]) ∧ ∀ k, tb s (TT1_1 ++ [e]) k → (tb st1_1 TT1_1 k ∨ w5.heap.size ≤ k)) | _ => .none) (by kernel_rfl) (by kernel_rfl) (by intro kS G hk; (try dsimp only at hk); (split at hk) <;> first | (cases hk; done) | (injection hk with hk; subst hk; exact ⟨by intro j hkj I v w w' hR hG; first | exact hG | (obtain ⟨s, c, h1, h2, h3⟩ := hG; exact ⟨s, c, h1, h2.fr (mS hR) (fun k hk hs => by have := h3 k hk; have := hTo.out.lt hs; omega), h3⟩) | (obtain ⟨b, s, c, h1, h2, h3, h4, h5⟩ := hG; exact ⟨b, s, c, h1, h2, h3.fr (mS hR) (fun hs => by have := hTo.out.lt hs; omega), h4.fr (mS hR) (fun k hk hs => by have := h5 k hk; have := hTo.out.lt hs; omega), h5⟩) | (obtain ⟨e, s, c, h1, h2, h3, h4⟩ := hG; exact ⟨e, s, c, h1, h2, h3.ext (mT hkj hR), h4⟩), fun ⟨_, _, _, _, hs⟩ => by (try dsimp only at hs); split at hs <;> cases hs⟩)) (by intro kS s y G hk; (try dsimp only at hk); split at hk <;> cases hk) ?_
    simp only [List.take_succ_cons, List.take_zero, List.take_nil, List.drop_succ_cons, List.drop_zero, List.drop_nil]
    refine mx_calm rfl (want rfl) (fun u1 eu1 fu1 => rn_fieldAddr fa_24_2 (A1.at 3 rfl rfl)) ?_
    refine mx_calm rfl (want rfl) (fun u2 eu2 fu2 => rn_load1Blk ag_22 rfl (BL1_3.fr (mD (by decide) eu2) (fun h => tn1L_1_3 _ (.inl h) rfl)) rfl) ?_
    refine mx_calm rfl (want rfl) (fun u3 eu3 fu3 => rn_fieldAddr fa_24_2 (A1.at 1 rfl rfl)) ?_
    refine mx_calm rfl (want rfl) (fun u4 eu4 fu4 => rn_load1Blk ag_22 rfl (BL1_1.fr (mD (by decide) eu4) (fun h => tn1L_1_1 _ (.inl h) rfl)) rfl) ?_
    refine mx_calm rfl (want rfl) (fun u5 eu5 fu5 => mv_int hs1_4) ?_
    refine mx_calm rfl (want rfl) (fun u6 eu6 fu6 => rn_index _ Tryd.underlying22 sz_49 rfl rfl rfl (by omega)) ?_
    refine mx_calm rfl (want rfl) (fun u7 eu7 fu7 => rn_load1 ag_49 rfl ((F5.new (mD (by decide) eu7) (fun k h => tg1L_1 k (.inl h))).cell (fun h => h) hcx)) ?_
    refine mx_any rfl rfl (want rfl) (fun u8 eu8 fu8 => do_append 24 Tryd.underlying49 ti_41 (by decide) rfl (by decide) rfl rfl (OwnS.nil _ 41 3) ((hpx.fr (pk_stab _) (F5.new (mD (by decide) eu8) (fun k h => tg1L_1 k (.inl h))) (fun _ _ h => h)).src (fun _ _ => rfl) (fun _ _ u hu => pk_one hu) (by decide)) (by have := hB.get hl; omega) (fun sA cA wA AP => ⟨(mE (by decide) (AP.fr.mono (fun _ _ h => ob_none h))), ⟨sA, cA, by rw [Nat.zero_add], by simpa using AP.own, fun k hk => (AP.blk k hk).elim (fun h => ob_none h) (fun h => Nat.le_trans (mD (by decide) eu8).size h)⟩⟩)) (fun I24 v24 => ?_)
    refine mx_any rfl rfl (want rfl) (fun u9 eu9 fu9 => by obtain ⟨s, c, rfl, h24, hg24⟩ := fu9 24 _ rfl (show (24 : Nat) ∈ _ from by decide); exact (do_newS2 (rn_bslice (xs := [.tmp 24]) Tryd.underlying22 sz_49 ze_49 rfl (argsC (t_slice rfl) args0) (CL.cons rfl rfl CL.nil) rfl (Nat.le_of_ble_eq_true rfl)) (show _ ≤ _ from ((mD (by decide) eu9)).size)).mono (fun v w' h => ⟨(mE (by decide) h.1), by obtain ⟨h1, b, h2, h3, _, h4⟩ := h; exact ⟨b, s, c, h2, h3, h4, h24.ext h1, hg24⟩⟩)) (fun I25 v25 => ?_)
    refine mx_any rfl rfl (want rfl) (fun u10 eu10 fu10 => by obtain ⟨b25, s, c, rfl, hb25, hB25, h24, hg24⟩ := fu10 25 _ rfl (show (25 : Nat) ∈ _ from by decide); exact do_append 24 Tryd.underlying22 ti_49 (by decide) rfl (by decide) rfl rfl (tw1L_1.ext (mC eu10)).out (Src.blk hB25 rfl rfl) (by rw [show TT1_1.length = i by have := congrArg List.length hT; simp at this; omega]; have := hB.1; omega) (fun sA cA wA AP => ⟨(mF AP.fr), by obtain ⟨h1, h2⟩ := Tab.snoc (e := (s, c, l)) (tw1L_1.ext (mC eu10)) h24 (fun k hk hb => by have := hg24 k hk; have := hTo.lt hb; omega) AP; exact ⟨(s, c, l), sA, cA, by simp, rfl, h1, fun k hk => (h2 k hk).elim .inl (fun h => .inr (h.elim (hg24 k) (fun h => Nat.le_trans (mC eu10).size h)))⟩⟩)) (fun I26 v26 => ?_)
    refine mx_calm rfl (want rfl) (fun u11 eu11 fu11 => rn_fieldAddr fa_24_2 (A1.at 3 rfl rfl)) ?_
    refine mx_nil (fun w6 E1' H1 HS => ?_)
    have E1 := mG E1'
    have F6 := F5.new E1 (fun k h => tg1L_1 k (.inl h))
    have hz1 := E1.size
    have hI26 := (HS.1 26 _ rfl).2
    have hI25 := (HS.1 25 _ rfl).2
    have hI24 := (HS.1 24 _ rfl).2
    have hX26_25 := HS.2 26 _ 25 _ rfl rfl (show (26 : Nat) ≠ 25 from by decide)
    have hX26_24 := HS.2 26 _ 24 _ rfl rfl (show (26 : Nat) ≠ 24 from by decide)
    have hX25_24 := HS.2 25 _ 24 _ rfl rfl (show (25 : Nat) ≠ 24 from by decide)
    simp only at hI26
    simp only at hI25
    simp only at hI24
    simp only at hX26_25
    simp only at hX26_24
    simp only at hX25_24
    have g26 := H1 26 _ rfl
    obtain ⟨e, sN, cN, rfl, he, hTN, hIN⟩ := g26
    have tg2 : ∀ k, tb sN (TT1_1 ++ [e]) k → w0.heap.size ≤ k := fun k hk => (hIN k hk).elim (tg1L_1 k) (fun h => by omega)
    have tn2_1 : ∀ k, tb sN (TT1_1 ++ [e]) k → k ≠ b1 := fun k hk => (hIN k hk).elim (tn1L_1_1 k) (fun h => by have := (BL1_1).lt; omega)
    have tn2_2 : ∀ k, tb sN (TT1_1 ++ [e]) k → k ≠ b2 := fun k hk => (hIN k hk).elim (tn1L_1_2 k) (fun h => by have := (BL1_2).lt; omega)
    have tn2_3 : ∀ k, tb sN (TT1_1 ++ [e]) k → k ≠ b3 := fun k hk => (hIN k hk).elim (tn1L_1_3 k) (fun h => by have := (BL1_3).lt; omega)
    have g25 := H1 25 _ rfl
    have g24 := H1 24 _ rfl
    refine lx_set (want rfl) sz_22 rfl (t_slice rfl) rfl rfl rfl (BL1_3.fr E1 (fun h => tn1L_1_3 _ (.inl h) rfl)) (Nat.le_of_ble_eq_true rfl) ?_
    intro w7 Es2 Bs2
    have F7 := F6.set Es2 (by omega)
    have hzs2 := Es2.size
    refine lx_nil ?_
    refine wk_region ?_
    refine lx_value (want rfl) (mv_int hs1_4) ?_
    refine lx_value (want rfl) (rn_add rfl rfl (by omega)) ?_
    refine lx_value (want rfl) (as_int rfl) ?_
    refine lx_nil ?_
    exact ⟨rfl, ((((((((((((((((((((A1.up rfl _).up rfl _).up rfl _).up rfl _).up rfl _).up rfl _).up rfl _).up rfl _).up rfl _).up rfl _).up rfl _).up rfl _).up rfl _).up rfl _).up rfl _).up rfl _).none _).up rfl _).up rfl _).up rfl _), Fr.between F4 F7 (by omega), _, (by omega), i + 1, sN, cN, (TT1_1 ++ [e]), rfl, rfl, ((BL1_1.fr E1 (fun h => tn1L_1_1 _ (.inl h) rfl)).ne Es2 (by omega)), ((BL1_2.fr E1 (fun h => tn1L_1_2 _ (.inl h) rfl)).ne Es2 (by omega)), Bs2, (hTN.fr Es2 (fun k hk h => tn2_3 k hk h)), tg2, tn2_1, tn2_2, tn2_3, by have := (List.getElem?_eq_some_iff.1 hl).1; omega, (tab_step hT hl he)⟩
  ·
    refine lx_nil ?_
    refine wk_cond_f rfl ?_
    refine wk_exit ?_
    refine wk_seq ?_
    refine wk_region ?_
    refine lx_value (want rfl) (rn_loadBlk ag_24 sz_24 (A1.at 3 rfl rfl) BL1_3 rfl rfl) ?_
    refine lx_set (want rfl) sz_24 (A1.at 2 rfl rfl) (t_agg rfl) rfl rfl rfl BL1_2 (Nat.le_of_ble_eq_true rfl) ?_
    intro w6 Es3 Bs3
    have F8 := F5.set Es3 (by omega)
    have hzs3 := Es3.size
    refine lx_nil ?_
    refine wk_ret ?_
    refine retR1 Tryd.results23 (.cell (A1.at 2 rfl rfl) (run_loadVar_blk ag_24 sz_24 Bs3 rfl rfl)) F8 ?_
    exact cubeT_of (tw1L_1.fr Es3 (fun k hk h => tn1L_1_2 k hk h)) hT (by omega) tg1L_1

theorem spots1_ct (l b n dim : Nat) (r : Int) (s : Option Addr) (c : Nat) (hd : dim ≤ 3) (hn : n ≤ 1048576) (K : Nat → World → Prop) (Z : World → Prop) (w0 : World) (h0 : K 0 w0) (hbx : ∀ i w, K i w → Blk w b [.int .i64 dim, .int .i64 r, .slice s n c] 76) (hfr : ∀ i w, K i w → Fr (fun _ => True) w0 w) (hZ : ∀ w, Z w → Fr (fun _ => True) w0 w) (hY : ∀ i w1 w2, i < n → K i w1 → Ext w1 w2 → Yd Tryd.prog l [.int .i64 i, .agg #[.int .i64 ((i / (dim + 1) : Nat) : Int), .int .i64 ((i % (dim + 1) : Nat) : Int)]] w2 (fun c w3 => w2.heap.size ≤ w3.heap.size ∧ Nx (K (i + 1) w3) (Z w3) c)) :
    CT Tryd.prog 90 [.func (.yield l) #[] #[], .pointer (some ⟨b, 0, none⟩)] w0 (fun _ => True) (fun _ w => (∃ w1, K n w1 ∧ Ext w1 w) ∨ ∃ w1, Z w1 ∧ Ext w1 w) := by
  have B20 := hbx 0 w0 h0
  have F0 := Fr.refl (fun _ => True) w0
  refine ct_body Tryd.func90 rfl Tryd.ntmps90 (Nat.le_of_ble_eq_true rfl) ?_
  refine wk_seq ?_
  refine wk_region ?_
  refine lx_value (want rfl) (rn_fieldAddr fa_76_0 rfl) ?_
  refine lx_value (want rfl) (rn_fieldAddr fa_24_2 rfl) ?_
  refine lx_value (want rfl) (rn_load1Blk ag_22 rfl B20 rfl) ?_
  refine lx_value (want rfl) (rn_len Tryd.underlying22 rfl) ?_
  refine lx_value (want rfl) (mv_int rfl) ?_
  refine lx_nil ?_
  refine wk_block ?_
  refine wk_loopA [3, 8, 9, 10, 11, 12, 13, 14, 15, 16, 17, 18, 19, 20, 21, 22, 23, 24, 25, 26, 27, 28] (fun j => (fun _ => True) j ∨ w0.heap.size ≤ j) (fun nM ρ w => ∃ (i : Nat), nM = n - i ∧ ρ 8 = .int .i64 i ∧ (∃ w1, K i w1 ∧ Ext w1 w) ∧ (i ≤ n)) _ ⟨0, rfl, rfl, ⟨_, h0, Fr.refl no _⟩, by omega⟩ ?_
  rintro n1 ρ1 w1 A1 EL1 ⟨i, rfl, hs1_8, hK, hi⟩
  have F1 := F0.wide EL1
  have hzL1 := EL1.size
  obtain ⟨wK, hK, EK⟩ := hK
  have BK := (hbx _ _ hK).ext EK
  refine wk_seq ?_
  refine wk_region ?_
  refine lx_value (want rfl) (rn_lss hs1_8 (A1.at 7 rfl rfl)) ?_
  refine lx_dec (fun hlt => ?_) (fun hlt => ?_)
  ·
    refine lx_nil ?_
    refine wk_seq ?_
    refine wk_cond_t rfl ?_
    refine wk_skip ?_
    refine wk_seq ?_
    refine wk_block ?_
    refine wk_seq ?_
    refine wk_region ?_
    refine lx_value (want rfl) (mv_int hs1_8) ?_
    refine lx_value (want rfl) (as_int rfl) ?_
    refine lx_nil ?_
    refine wk_seq ?_
    refine wk_mix 15 (fun _ => .none) (by kernel_rfl) (by kernel_rfl) (fun kS G hk => by cases hk) (fun kS s y G hk => by cases hk) ?_
    simp only [List.take_succ_cons, List.take_zero, List.take_nil, List.drop_succ_cons, List.drop_zero, List.drop_nil]
    refine mx_calm rfl (want rfl) (fun u1 eu1 fu1 => mv_func (A1.at 0 rfl rfl)) ?_
    refine mx_calm rfl (want rfl) (fun u2 eu2 fu2 => mv_int rfl) ?_
    refine mx_calm rfl (want rfl) (fun u3 eu3 fu3 => mv_int rfl) ?_
    refine mx_calm rfl (want rfl) (fun u4 eu4 fu4 => rn_fieldAddr fa_76_0 (A1.at 1 rfl rfl)) ?_
    refine mx_calm rfl (want rfl) (fun u5 eu5 fu5 => rn_fieldAddr fa_24_0 rfl) ?_
    refine mx_calm rfl (want rfl) (fun u6 eu6 fu6 => rn_load1Blk ag_3 rfl (BK.ext ((ext_drawn _).trans' eu6)) rfl) ?_
    refine mx_calm rfl (want rfl) (fun u7 eu7 fu7 => rn_addN rfl (n := 1) rfl (by omega)) ?_
    refine mx_calm rfl (want rfl) (fun u8 eu8 fu8 => rn_quoN rfl rfl (by omega)) ?_
    refine mx_calm rfl (want rfl) (fun u9 eu9 fu9 => mv_int rfl) ?_
    refine mx_calm rfl (want rfl) (fun u10 eu10 fu10 => rn_fieldAddr fa_76_0 (A1.at 1 rfl rfl)) ?_
    refine mx_calm rfl (want rfl) (fun u11 eu11 fu11 => rn_fieldAddr fa_24_0 rfl) ?_
    refine mx_calm rfl (want rfl) (fun u12 eu12 fu12 => rn_load1Blk ag_3 rfl (BK.ext ((ext_drawn _).trans' eu12)) rfl) ?_
    refine mx_calm rfl (want rfl) (fun u13 eu13 fu13 => rn_addN rfl (n := 1) rfl (by omega)) ?_
    refine mx_calm rfl (want rfl) (fun u14 eu14 fu14 => rn_remN rfl rfl (by omega)) ?_
    refine mx_calm rfl (want rfl) (fun u15 eu15 fu15 => rn_build2 (t_int rfl) (t_int rfl) (fun w => bd_82_0_1 _ _ w)) ?_
    refine mx_nil (fun w2 E1' H1 HS => ?_)
    have E1 := (ext_drawn _).trans' E1'
    have F2 := F1.ext E1
    have hz1 := E1.size
    refine lx_yield (want rfl) rfl (argsC (t_int rfl) (argsC (t_agg rfl) args0)) (hY i wK w2 (by omega) hK (EK.trans' (Fr.ext (Fr.refl no w1) E1))) ?_
    intro cY w3 ⟨hzY, HY⟩
    refine lx_split (fun h26 => ?_) (fun h26 => ?_)
    ·
      subst h26
      have HY : K (i + 1) _ := HY
      have FY := hfr _ _ HY
      refine lx_value (want rfl) (rn_not rfl) ?_
      refine lx_nil ?_
      refine wk_cond_f rfl ?_
      refine wk_skip ?_
      refine wk_region ?_
      refine lx_value (want rfl) (rn_add hs1_8 rfl (by omega)) ?_
      refine lx_value (want rfl) (mv_int rfl) ?_
      refine lx_nil ?_
      exact ⟨rfl, ((((((((((((((((((((((A1.up rfl _).up rfl _).up rfl _).up rfl _).up rfl _).up rfl _).up rfl _).up rfl _).up rfl _).up rfl _).up rfl _).up rfl _).up rfl _).up rfl _).up rfl _).up rfl _).up rfl _).up rfl _).up rfl _).up rfl _).up rfl _).up rfl _), Fr.between F0 FY (by omega), _, (by omega), i + 1, rfl, rfl, ⟨_, HY, Fr.refl no _⟩, by omega⟩
    ·
      subst h26
      have HY : Z _ := HY
      have FY := hZ _ HY
      refine lx_value (want rfl) (rn_not rfl) ?_
      refine lx_nil ?_
      refine wk_cond_t rfl ?_
      refine wk_ret ?_
      refine ret0 Tryd.results90 FY ?_
      exact .inr ⟨_, HY, Fr.refl no _⟩
  ·
    refine lx_nil ?_
    refine wk_seq ?_
    refine wk_cond_f rfl ?_
    refine wk_exit ?_
    (try simp only [thenK, blockK, if_true])
    refine retN ?_
    refine ret0 Tryd.results90 F1 ?_
    exact .inl ⟨_, (show K n wK by obtain rfl : i = n := (by omega); exact hK), EK⟩

theorem packets_ct (a b : List Pk) (sa sb : Option Addr) (ca cb : Nat) (Fa Fb : Nat → Prop) (w0 : World) (ha : PkS Fa w0 sa a) (hb : PkS Fb w0 sb b) (hbb : b.length ≤ 1048576) :
    CT Tryd.prog 34 [.slice sa a.length ca, .slice sb b.length cb] w0 no (fun v _ => v = .bool (decide (a = b))) := by
  have F0 := Fr.refl no w0
  refine ct_body Tryd.func34 rfl Tryd.ntmps34 (Nat.le_of_ble_eq_true rfl) ?_
  refine wk_seq ?_
  refine wk_region ?_
  refine lx_value (want rfl) (as_bool rfl) ?_
  refine lx_nil ?_
  refine wk_seq ?_
  refine wk_seq ?_
  refine wk_region ?_
  refine lx_value (want rfl) (mv_slice rfl) ?_
  refine lx_value (want rfl) (rn_len Tryd.underlying49 rfl) ?_
  refine lx_value (want rfl) (mv_slice rfl) ?_
  refine lx_value (want rfl) (rn_len Tryd.underlying49 rfl) ?_
  refine lx_value (want rfl) (rn_neq rfl rfl) ?_
  refine lx_dec (fun hl => ?_) (fun hl => ?_)
  ·
    refine lx_nil ?_
    refine wk_cond_t rfl ?_
    refine wk_seq ?_
    refine wk_region ?_
    refine lx_value (want rfl) (as_bool rfl) ?_
    refine lx_nil ?_
    refine wk_ret ?_
    refine retR1 Tryd.results34 (.tmp (t_bool rfl)) F0 ?_
    exact no_dec (len_ne hl)
  ·
    refine lx_nil ?_
    refine wk_cond_f rfl ?_
    refine wk_skip ?_
    refine wk_seq ?_
    refine wk_seq ?_
    refine wk_region ?_
    refine lx_value (want rfl) (as_int rfl) ?_
    refine lx_nil ?_
    refine wk_block ?_
    refine wk_loopA [4, 5, 11, 12, 13, 14, 15, 16, 17, 18, 19, 20, 21, 22, 23, 24, 25] no (fun nM ρ w => ∃ (i : Nat), nM = a.length - i ∧ ρ 5 = .int .i64 i ∧ (i ≤ a.length) ∧ (a.take i = b.take i)) _ ⟨0, rfl, rfl, by omega, rfl⟩ ?_
    rintro n1 ρ1 w1 A1 EL1 ⟨i, rfl, hs1_5, hi, hq⟩
    have F1 := F0.ext EL1
    have hzL1 := EL1.size
    refine wk_seq ?_
    refine wk_seq ?_
    refine wk_region ?_
    refine lx_value (want rfl) (mv_int hs1_5) ?_
    refine lx_value (want rfl) (mv_slice (A1.at 0 rfl rfl)) ?_
    refine lx_value (want rfl) (rn_len Tryd.underlying49 rfl) ?_
    refine lx_value (want rfl) (rn_lss rfl rfl) ?_
    refine lx_dec (fun hlt => ?_) (fun hlt => ?_)
    ·
      obtain ⟨x, hx⟩ := getx hlt
      obtain ⟨y, hy⟩ : ∃ y, b[i]? = some y := getx (by omega)
      obtain ⟨bx, ox, rfl, _, hcx⟩ := ha i x hx
      obtain ⟨by_, oy, rfl, _, hcy⟩ := hb i y hy
      refine lx_nil ?_
      refine wk_cond_t rfl ?_
      refine wk_skip ?_
      refine wk_seq ?_
      refine wk_block ?_
      refine wk_seq ?_
      refine wk_mix 8 (fun _ => .none) (by kernel_rfl) (by kernel_rfl) (fun kS G hk => by cases hk) (fun kS s y G hk => by cases hk) ?_
      simp only [List.take_succ_cons, List.take_zero, List.take_nil, List.drop_succ_cons, List.drop_zero, List.drop_nil]
      refine mx_calm rfl (want rfl) (fun u1 eu1 fu1 => mv_slice (A1.at 0 rfl rfl)) ?_
      refine mx_calm rfl (want rfl) (fun u2 eu2 fu2 => mv_int hs1_5) ?_
      refine mx_calm rfl (want rfl) (fun u3 eu3 fu3 => rn_index _ Tryd.underlying49 sz_41 rfl rfl rfl (by omega)) ?_
      refine mx_calm rfl (want rfl) (fun u4 eu4 fu4 => rn_load3 ag_41 sz_41 rfl ((F1.ext ((ext_drawn _).trans' eu4)).cell (fun h => h) (hcx 0 _ rfl)) ((F1.ext ((ext_drawn _).trans' eu4)).cell (fun h => h) (hcx 1 _ rfl)) ((F1.ext ((ext_drawn _).trans' eu4)).cell (fun h => h) (hcx 2 _ rfl))) ?_
      refine mx_calm rfl (want rfl) (fun u5 eu5 fu5 => mv_slice (A1.at 1 rfl rfl)) ?_
      refine mx_calm rfl (want rfl) (fun u6 eu6 fu6 => mv_int hs1_5) ?_
      refine mx_calm rfl (want rfl) (fun u7 eu7 fu7 => rn_index _ Tryd.underlying49 sz_41 rfl rfl rfl (by omega)) ?_
      refine mx_calm rfl (want rfl) (fun u8 eu8 fu8 => rn_load3 ag_41 sz_41 rfl ((F1.ext ((ext_drawn _).trans' eu8)).cell (fun h => h) (hcy 0 _ rfl)) ((F1.ext ((ext_drawn _).trans' eu8)).cell (fun h => h) (hcy 1 _ rfl)) ((F1.ext ((ext_drawn _).trans' eu8)).cell (fun h => h) (hcy 2 _ rfl))) ?_
      refine mx_nil (fun w2 E1' H1 HS => ?_)
      have E1 := (ext_drawn _).trans' E1'
      have F2 := F1.ext E1
      have hz1 := E1.size
      refine lx_value (want rfl) (rn_cmpS (t_agg rfl) (t_agg rfl) (gneq_41 _ _ _ _ _ _) (neq_41 _ _ _ _ _ _)) ?_
      refine lx_dec (fun hne => ?_) (fun hne => ?_)
      ·
        refine lx_nil ?_
        refine wk_cond_t rfl ?_
        refine wk_seq ?_
        refine wk_region ?_
        refine lx_value (want rfl) (as_bool rfl) ?_
        refine lx_nil ?_
        refine wk_ret ?_
        refine retR1 Tryd.results34 (.tmp (t_bool rfl)) F2 ?_
        exact no_dec (eqs_ne hx hy (pk_ne hne))
      ·
        refine lx_nil ?_
        refine wk_cond_f rfl ?_
        refine wk_skip ?_
        refine wk_region ?_
        refine lx_value (want rfl) (mv_int hs1_5) ?_
        refine lx_value (want rfl) (rn_add rfl rfl (by omega)) ?_
        refine lx_value (want rfl) (as_int rfl) ?_
        refine lx_nil ?_
        exact ⟨rfl, ((((((((((((((((A1.up rfl _).up rfl _).up rfl _).up rfl _).up rfl _).up rfl _).up rfl _).up rfl _).up rfl _).up rfl _).up rfl _).up rfl _).up rfl _).up rfl _).up rfl _).up rfl _), (Fr.ext EL1 E1), _, (by omega), i + 1, rfl, rfl, by omega, (eqs_step hq hx hy (pk_eq hne))⟩
    ·
      refine lx_nil ?_
      refine wk_cond_f rfl ?_
      refine wk_exit ?_
      refine wk_seq ?_
      refine wk_region ?_
      refine lx_value (want rfl) (as_bool rfl) ?_
      refine lx_nil ?_
      refine wk_ret ?_
      refine retR1 Tryd.results34 (.tmp (t_bool rfl)) F1 ?_
      exact yes_dec (eqs_end hq (by omega) hlt)

theorem ints_ct (a b : List Int) (sa sb : Option Addr) (ca cb : Nat) (Fa Fb : Nat → Prop) (w0 : World) (ha : IntS Fa w0 sa a) (hb : IntS Fb w0 sb b) (hbb : b.length ≤ 1048576) :
    CT Tryd.prog 20 [.slice sa a.length ca, .slice sb b.length cb] w0 no (fun v _ => v = .bool (decide (a = b))) := by
  have F0 := Fr.refl no w0
  refine ct_body Tryd.func20 rfl Tryd.ntmps20 (Nat.le_of_ble_eq_true rfl) ?_
  refine wk_seq ?_
  refine wk_region ?_
  refine lx_value (want rfl) (as_bool rfl) ?_
  refine lx_nil ?_
  refine wk_seq ?_
  refine wk_seq ?_
  refine wk_region ?_
  refine lx_value (want rfl) (mv_slice rfl) ?_
  refine lx_value (want rfl) (rn_len Tryd.underlying28 rfl) ?_
  refine lx_value (want rfl) (mv_slice rfl) ?_
  refine lx_value (want rfl) (rn_len Tryd.underlying28 rfl) ?_
  refine lx_value (want rfl) (rn_neq rfl rfl) ?_
  refine lx_dec (fun hl => ?_) (fun hl => ?_)
  ·
    refine lx_nil ?_
    refine wk_cond_t rfl ?_
    refine wk_seq ?_
    refine wk_region ?_
    refine lx_value (want rfl) (as_bool rfl) ?_
    refine lx_nil ?_
    refine wk_ret ?_
    refine retR1 Tryd.results20 (.tmp (t_bool rfl)) F0 ?_
    exact no_dec (len_ne hl)
  ·
    refine lx_nil ?_
    refine wk_cond_f rfl ?_
    refine wk_skip ?_
    refine wk_seq ?_
    refine wk_seq ?_
    refine wk_region ?_
    refine lx_value (want rfl) (as_int rfl) ?_
    refine lx_nil ?_
    refine wk_block ?_
    refine wk_loopA [4, 5, 11, 12, 13, 14, 15, 16, 17, 18, 19, 20, 21, 22, 23, 24, 25] no (fun nM ρ w => ∃ (i : Nat), nM = a.length - i ∧ ρ 5 = .int .i64 i ∧ (i ≤ a.length) ∧ (a.take i = b.take i)) _ ⟨0, rfl, rfl, by omega, rfl⟩ ?_
    rintro n1 ρ1 w1 A1 EL1 ⟨i, rfl, hs1_5, hi, hq⟩
    have F1 := F0.ext EL1
    have hzL1 := EL1.size
    refine wk_seq ?_
    refine wk_seq ?_
    refine wk_region ?_
    refine lx_value (want rfl) (mv_int hs1_5) ?_
    refine lx_value (want rfl) (mv_slice (A1.at 0 rfl rfl)) ?_
    refine lx_value (want rfl) (rn_len Tryd.underlying28 rfl) ?_
    refine lx_value (want rfl) (rn_lss rfl rfl) ?_
    refine lx_dec (fun hlt => ?_) (fun hlt => ?_)
    ·
      obtain ⟨x, hx⟩ := getx hlt
      obtain ⟨y, hy⟩ : ∃ y, b[i]? = some y := getx (by omega)
      obtain ⟨bx, ox, rfl, _, hcx⟩ := ha i x hx
      obtain ⟨by_, oy, rfl, _, hcy⟩ := hb i y hy
      refine lx_nil ?_
      refine wk_cond_t rfl ?_
      refine wk_skip ?_
      refine wk_seq ?_
      refine wk_block ?_
      refine wk_seq ?_
      refine wk_mix 8 (fun _ => .none) (by kernel_rfl) (by kernel_rfl) (fun kS G hk => by cases hk) (fun kS s y G hk => by cases hk) ?_
      simp only [List.take_succ_cons, List.take_zero, List.take_nil, List.drop_succ_cons, List.drop_zero, List.drop_nil]
      refine mx_calm rfl (want rfl) (fun u1 eu1 fu1 => mv_slice (A1.at 0 rfl rfl)) ?_
      refine mx_calm rfl (want rfl) (fun u2 eu2 fu2 => mv_int hs1_5) ?_
      refine mx_calm rfl (want rfl) (fun u3 eu3 fu3 => rn_index _ Tryd.underlying28 sz_3 rfl rfl rfl (by omega)) ?_
      refine mx_calm rfl (want rfl) (fun u4 eu4 fu4 => rn_load1 ag_3 rfl ((F1.ext ((ext_drawn _).trans' eu4)).cell (fun h => h) (hcx 0 _ rfl))) ?_
      refine mx_calm rfl (want rfl) (fun u5 eu5 fu5 => mv_slice (A1.at 1 rfl rfl)) ?_
      refine mx_calm rfl (want rfl) (fun u6 eu6 fu6 => mv_int hs1_5) ?_
      refine mx_calm rfl (want rfl) (fun u7 eu7 fu7 => rn_index _ Tryd.underlying28 sz_3 rfl rfl rfl (by omega)) ?_
      refine mx_calm rfl (want rfl) (fun u8 eu8 fu8 => rn_load1 ag_3 rfl ((F1.ext ((ext_drawn _).trans' eu8)).cell (fun h => h) (hcy 0 _ rfl))) ?_
      refine mx_nil (fun w2 E1' H1 HS => ?_)
      have E1 := (ext_drawn _).trans' E1'
      have F2 := F1.ext E1
      have hz1 := E1.size
      refine lx_value (want rfl) (rn_neq rfl rfl) ?_
      refine lx_dec (fun hne => ?_) (fun hne => ?_)
      ·
        refine lx_nil ?_
        refine wk_cond_t rfl ?_
        refine wk_seq ?_
        refine wk_region ?_
        refine lx_value (want rfl) (as_bool rfl) ?_
        refine lx_nil ?_
        refine wk_ret ?_
        refine retR1 Tryd.results20 (.tmp (t_bool rfl)) F2 ?_
        exact no_dec (eqs_ne hx hy hne)
      ·
        refine lx_nil ?_
        refine wk_cond_f rfl ?_
        refine wk_skip ?_
        refine wk_region ?_
        refine lx_value (want rfl) (mv_int hs1_5) ?_
        refine lx_value (want rfl) (rn_add rfl rfl (by omega)) ?_
        refine lx_value (want rfl) (as_int rfl) ?_
        refine lx_nil ?_
        exact ⟨rfl, ((((((((((((((((A1.up rfl _).up rfl _).up rfl _).up rfl _).up rfl _).up rfl _).up rfl _).up rfl _).up rfl _).up rfl _).up rfl _).up rfl _).up rfl _).up rfl _).up rfl _).up rfl _), (Fr.ext EL1 E1), _, (by omega), i + 1, rfl, rfl, by omega, (eqs_step hq hx hy (Decidable.not_not.1 hne))⟩
    ·
      refine lx_nil ?_
      refine wk_cond_f rfl ?_
      refine wk_exit ?_
      refine wk_seq ?_
      refine wk_region ?_
      refine lx_value (want rfl) (as_bool rfl) ?_
      refine lx_nil ?_
      refine wk_ret ?_
      refine retR1 Tryd.results20 (.tmp (t_bool rfl)) F1 ?_
      exact yes_dec (eqs_end hq (by omega) hlt)

theorem thin_ct (d r : Int) (L : List (List Pk)) (s : Option Addr) (c : Nat) (G : Nat → Prop) (w0 : World) (hL : BufS G w0 s L) :
    CT Tryd.prog 22 [.agg #[.int .i64 d, .int .i64 r, .slice s L.length c]] w0 no (fun v _ => v = .bool (thinB L)) := by
  have F0 := Fr.refl no w0
  refine ct_body Tryd.func22 rfl Tryd.ntmps22 (Nat.le_of_ble_eq_true rfl) ?_
  refine wk_seq ?_
  refine wk_region ?_
  refine lx_new (want rfl) (rn_box (t_agg rfl)) ?_
  intro b1 w1 hb1 Eb1 B1 hlb1
  have F1 := F0.ext Eb1
  have hzb1 := Eb1.size
  refine lx_value (want rfl) (as_bool rfl) ?_
  refine lx_nil ?_
  refine wk_seq ?_
  refine wk_seq ?_
  refine wk_region ?_
  refine lx_value (want rfl) (rn_fieldAddr fa_24_2 rfl) ?_
  refine lx_value (want rfl) (rn_load1Blk ag_22 rfl B1 rfl) ?_
  refine lx_value (want rfl) (rn_len Tryd.underlying22 rfl) ?_
  refine lx_value (want rfl) (rn_gtr rfl rfl) ?_
  refine lx_dec (fun h40 => ?_) (fun h40 => ?_)
  ·
    refine lx_nil ?_
    refine wk_cond_t rfl ?_
    refine wk_seq ?_
    refine wk_region ?_
    refine lx_value (want rfl) (as_bool rfl) ?_
    refine lx_nil ?_
    refine wk_ret ?_
    refine retR1 Tryd.results22 (.tmp (t_bool rfl)) F1 ?_
    exact thin_no h40
  ·
    refine lx_nil ?_
    refine wk_cond_f rfl ?_
    refine wk_skip ?_
    refine wk_seq ?_
    refine wk_seq ?_
    refine wk_region ?_
    refine lx_value (want rfl) (as_int rfl) ?_
    refine lx_nil ?_
    refine wk_block ?_
    refine wk_loopA [2, 3, 8, 9, 10, 11, 12, 13, 14, 15, 16, 17, 18, 19, 20, 21] no (fun nM ρ w => ∃ (i : Nat), nM = L.length - i ∧ ρ 3 = .int .i64 i ∧ (i ≤ L.length) ∧ ((L.take i).all (fun l => decide (l.length ≤ 12)) = true)) _ ⟨0, rfl, rfl, by omega, rfl⟩ ?_
    rintro n1 ρ1 w2 A1 EL1 ⟨i, rfl, hs1_3, hi, hq⟩
    have F2 := F1.ext EL1
    have hzL1 := EL1.size
    refine wk_seq ?_
    refine wk_seq ?_
    refine wk_region ?_
    refine lx_value (want rfl) (mv_int hs1_3) ?_
    refine lx_value (want rfl) (rn_fieldAddr fa_24_2 (A1.at 1 rfl rfl)) ?_
    refine lx_value (want rfl) (rn_load1Blk ag_22 rfl (B1.ext EL1) rfl) ?_
    refine lx_value (want rfl) (rn_len Tryd.underlying22 rfl) ?_
    refine lx_value (want rfl) (rn_lss rfl rfl) ?_
    refine lx_dec (fun hlt => ?_) (fun hlt => ?_)
    ·
      obtain ⟨l, hl⟩ := getx hlt
      obtain ⟨bx, ox, rfl, _, sx, cx, hcx, hpx⟩ := hL i l hl
      refine lx_nil ?_
      refine wk_cond_t rfl ?_
      refine wk_skip ?_
      refine wk_seq ?_
      refine wk_block ?_
      refine wk_seq ?_
      refine wk_region ?_
      refine lx_value (want rfl) (rn_fieldAddr fa_24_2 (A1.at 1 rfl rfl)) ?_
      refine lx_value (want rfl) (rn_load1Blk ag_22 rfl (B1.ext EL1) rfl) ?_
      refine lx_value (want rfl) (mv_int hs1_3) ?_
      refine lx_value (want rfl) (rn_index _ Tryd.underlying22 sz_49 rfl rfl rfl (by omega)) ?_
      refine lx_value (want rfl) (rn_load1 ag_49 rfl (F2.cell (fun h => h) hcx)) ?_
      refine lx_value (want rfl) (rn_len Tryd.underlying49 rfl) ?_
      refine lx_value (want rfl) (rn_gtr rfl rfl) ?_
      refine lx_dec (fun h12 => ?_) (fun h12 => ?_)
      ·
        refine lx_nil ?_
        refine wk_cond_t rfl ?_
        refine wk_seq ?_
        refine wk_region ?_
        refine lx_value (want rfl) (as_bool rfl) ?_
        refine lx_nil ?_
        refine wk_ret ?_
        refine retR1 Tryd.results22 (.tmp (t_bool rfl)) F2 ?_
        exact thin_no2 hl h12
      ·
        refine lx_nil ?_
        refine wk_cond_f rfl ?_
        refine wk_skip ?_
        refine wk_region ?_
        refine lx_value (want rfl) (mv_int hs1_3) ?_
        refine lx_value (want rfl) (rn_add rfl rfl (by omega)) ?_
        refine lx_value (want rfl) (as_int rfl) ?_
        refine lx_nil ?_
        exact ⟨rfl, (((((((((((((((A1.up rfl _).up rfl _).up rfl _).up rfl _).up rfl _).up rfl _).up rfl _).up rfl _).up rfl _).up rfl _).up rfl _).up rfl _).up rfl _).up rfl _).up rfl _), EL1, _, (by omega), i + 1, rfl, rfl, by omega, (all_step hq hl (by simp; omega))⟩
    ·
      refine lx_nil ?_
      refine wk_cond_f rfl ?_
      refine wk_exit ?_
      refine wk_seq ?_
      refine wk_region ?_
      refine lx_value (want rfl) (as_bool rfl) ?_
      refine lx_nil ?_
      refine wk_ret ?_
      refine retR1 Tryd.results22 (.tmp (t_bool rfl)) F2 ?_
      exact thin_yes h40 hq hlt

theorem indexp_ct (l : List Pk) (s : Option Addr) (c : Nat) (F : Nat → Prop) (fid : FuncId) (caps : List Value) (q : Pk → Bool) (hcf : ∀ args w, (callFunc fid args).run Tryd.prog w = .ok (.enter fid args) w) (w0 : World) (hl : PkS F w0 s l) (hb : l.length ≤ 1048576) (hq : ∀ z w, z ∈ l → Ext w0 w → CT Tryd.prog fid (pkV z :: caps) w no (fun v _ => v = .bool (q z))) :
    CT Tryd.prog 91 [.slice s l.length c, .func (.func fid) #[] caps.toArray] w0 no (fun v _ => ∃ z : Int, v = .int .i64 z ∧ decide (0 ≤ z) = l.any q) := by
  have F0 := Fr.refl no w0
  refine ct_body Tryd.func91 rfl Tryd.ntmps91 (Nat.le_of_ble_eq_true rfl) ?_
  refine wk_seq ?_
  refine wk_region ?_
  refine lx_value (want rfl) (as_int rfl) ?_
  refine lx_nil ?_
  refine wk_seq ?_
  refine wk_seq ?_
  refine wk_region ?_
  refine lx_value (want rfl) (mv_slice rfl) ?_
  refine lx_value (want rfl) (rn_len Tryd.underlying49 rfl) ?_
  refine lx_value (want rfl) (mv_int rfl) ?_
  refine lx_nil ?_
  refine wk_block ?_
  refine wk_loopA [4, 5, 8, 9, 10, 11, 12, 13, 14, 15, 16, 17, 18] no (fun nM ρ w => ∃ (i : Nat), nM = l.length - i ∧ ρ 8 = .int .i64 i ∧ (i ≤ l.length) ∧ ((l.take i).any q = false)) _ ⟨0, rfl, rfl, by omega, rfl⟩ ?_
  rintro n1 ρ1 w1 A1 EL1 ⟨i, rfl, hs1_8, hi, hq0⟩
  have F1 := F0.ext EL1
  have hzL1 := EL1.size
  refine wk_seq ?_
  refine wk_region ?_
  refine lx_value (want rfl) (rn_lss hs1_8 (A1.at 7 rfl rfl)) ?_
  refine lx_dec (fun hlt => ?_) (fun hlt => ?_)
  ·
    obtain ⟨z, hz⟩ := getx hlt
    obtain ⟨bx, ox, rfl, _, hcx⟩ := hl i z hz
    refine lx_nil ?_
    refine wk_seq ?_
    refine wk_cond_t rfl ?_
    refine wk_skip ?_
    refine wk_seq ?_
    refine wk_block ?_
    refine wk_seq ?_
    refine wk_region ?_
    refine lx_value (want rfl) (mv_int hs1_8) ?_
    refine lx_value (want rfl) (as_int rfl) ?_
    refine lx_nil ?_
    refine wk_seq ?_
    refine wk_region ?_
    refine lx_value (want rfl) (mv_func (A1.at 1 rfl rfl)) ?_
    refine lx_value (want rfl) (mv_slice (A1.at 0 rfl rfl)) ?_
    refine lx_value (want rfl) (mv_int rfl) ?_
    refine lx_value (want rfl) (rn_index _ Tryd.underlying49 sz_41 rfl rfl rfl (by omega)) ?_
    refine lx_value (want rfl) (rn_load3 ag_41 sz_41 rfl (F1.cell (fun h => h) (hcx 0 _ rfl)) (F1.cell (fun h => h) (hcx 1 _ rfl)) (F1.cell (fun h => h) (hcx 2 _ rfl))) ?_
    refine lx_call (want rfl) (ent_value hcf rfl (argsC (t_agg rfl) args0)) (hq z w1 (List.mem_of_getElem? hz) F1) ?_
    rintro _ w2 E1 rfl
    have F2 := F1.ext E1
    have hz1 := E1.size
    refine lx_split (fun h16 => ?_) (fun h16 => ?_)
    ·
      refine lx_nil ?_
      refine wk_cond_t rfl ?_
      refine wk_seq ?_
      refine wk_region ?_
      refine lx_value (want rfl) (mv_int rfl) ?_
      refine lx_value (want rfl) (as_int rfl) ?_
      refine lx_nil ?_
      refine wk_ret ?_
      refine retR1 Tryd.results91 (.tmp (t_int rfl)) F2 ?_
      exact idx_some hz h16
    ·
      refine lx_nil ?_
      refine wk_cond_f rfl ?_
      refine wk_skip ?_
      refine wk_region ?_
      refine lx_value (want rfl) (rn_add hs1_8 rfl (by omega)) ?_
      refine lx_value (want rfl) (mv_int rfl) ?_
      refine lx_nil ?_
      exact ⟨rfl, (((((((((((A1.up rfl _).up rfl _).up rfl _).up rfl _).up rfl _).up rfl _).up rfl _).up rfl _).up rfl _).up rfl _).up rfl _), (Fr.ext EL1 E1), _, (by omega), i + 1, rfl, rfl, by omega, (any_step hq0 hz h16)⟩
  ·
    refine lx_nil ?_
    refine wk_seq ?_
    refine wk_cond_f rfl ?_
    refine wk_exit ?_
    refine wk_seq ?_
    refine wk_region ?_
    refine lx_value (want rfl) (as_int rfl) ?_
    refine lx_nil ?_
    refine wk_ret ?_
    refine retR1 Tryd.results91 (.tmp (t_int rfl)) F1 ?_
    exact idx_none hq0 hlt

theorem index_ct (l : List Int) (s : Option Addr) (c : Nat) (F : Nat → Prop) (fid : FuncId) (caps : List Value) (q : Int → Bool) (hcf : ∀ args w, (callFunc fid args).run Tryd.prog w = .ok (.enter fid args) w) (w0 : World) (hl : IntS F w0 s l) (hb : l.length ≤ 1048576) (hq : ∀ z w, z ∈ l → Ext w0 w → CT Tryd.prog fid (.int .i64 z :: caps) w no (fun v _ => v = .bool (q z))) :
    CT Tryd.prog 88 [.slice s l.length c, .func (.func fid) #[] caps.toArray] w0 no (fun v _ => ∃ z : Int, v = .int .i64 z ∧ decide (0 ≤ z) = l.any q) := by
  have F0 := Fr.refl no w0
  refine ct_body Tryd.func88 rfl Tryd.ntmps88 (Nat.le_of_ble_eq_true rfl) ?_
  refine wk_seq ?_
  refine wk_region ?_
  refine lx_value (want rfl) (as_int rfl) ?_
  refine lx_nil ?_
  refine wk_seq ?_
  refine wk_seq ?_
  refine wk_region ?_
  refine lx_value (want rfl) (mv_slice rfl) ?_
  refine lx_value (want rfl) (rn_len Tryd.underlying28 rfl) ?_
  refine lx_value (want rfl) (mv_int rfl) ?_
  refine lx_nil ?_
  refine wk_block ?_
  refine wk_loopA [4, 5, 8, 9, 10, 11, 12, 13, 14, 15, 16, 17, 18] no (fun nM ρ w => ∃ (i : Nat), nM = l.length - i ∧ ρ 8 = .int .i64 i ∧ (i ≤ l.length) ∧ ((l.take i).any q = false)) _ ⟨0, rfl, rfl, by omega, rfl⟩ ?_
  rintro n1 ρ1 w1 A1 EL1 ⟨i, rfl, hs1_8, hi, hq0⟩
  have F1 := F0.ext EL1
  have hzL1 := EL1.size
  refine wk_seq ?_
  refine wk_region ?_
  refine lx_value (want rfl) (rn_lss hs1_8 (A1.at 7 rfl rfl)) ?_
  refine lx_dec (fun hlt => ?_) (fun hlt => ?_)
  ·
    obtain ⟨z, hz⟩ := getx hlt
    obtain ⟨bx, ox, rfl, _, hcx⟩ := hl i z hz
    refine lx_nil ?_
    refine wk_seq ?_
    refine wk_cond_t rfl ?_
    refine wk_skip ?_
    refine wk_seq ?_
    refine wk_block ?_
    refine wk_seq ?_
    refine wk_region ?_
    refine lx_value (want rfl) (mv_int hs1_8) ?_
    refine lx_value (want rfl) (as_int rfl) ?_
    refine lx_nil ?_
    refine wk_seq ?_
    refine wk_region ?_
    refine lx_value (want rfl) (mv_func (A1.at 1 rfl rfl)) ?_
    refine lx_value (want rfl) (mv_slice (A1.at 0 rfl rfl)) ?_
    refine lx_value (want rfl) (mv_int rfl) ?_
    refine lx_value (want rfl) (rn_index _ Tryd.underlying28 sz_3 rfl rfl rfl (by omega)) ?_
    refine lx_value (want rfl) (rn_load1 ag_3 rfl (F1.cell (fun h => h) (hcx 0 _ rfl))) ?_
    refine lx_call (want rfl) (ent_value hcf rfl (argsC (t_int rfl) args0)) (hq z w1 (List.mem_of_getElem? hz) F1) ?_
    rintro _ w2 E1 rfl
    have F2 := F1.ext E1
    have hz1 := E1.size
    refine lx_split (fun h16 => ?_) (fun h16 => ?_)
    ·
      refine lx_nil ?_
      refine wk_cond_t rfl ?_
      refine wk_seq ?_
      refine wk_region ?_
      refine lx_value (want rfl) (mv_int rfl) ?_
      refine lx_value (want rfl) (as_int rfl) ?_
      refine lx_nil ?_
      refine wk_ret ?_
      refine retR1 Tryd.results88 (.tmp (t_int rfl)) F2 ?_
      exact idx_some hz h16
    ·
      refine lx_nil ?_
      refine wk_cond_f rfl ?_
      refine wk_skip ?_
      refine wk_region ?_
      refine lx_value (want rfl) (rn_add hs1_8 rfl (by omega)) ?_
      refine lx_value (want rfl) (mv_int rfl) ?_
      refine lx_nil ?_
      exact ⟨rfl, (((((((((((A1.up rfl _).up rfl _).up rfl _).up rfl _).up rfl _).up rfl _).up rfl _).up rfl _).up rfl _).up rfl _).up rfl _), (Fr.ext EL1 E1), _, (by omega), i + 1, rfl, rfl, by omega, (any_step hq0 hz h16)⟩
  ·
    refine lx_nil ?_
    refine wk_seq ?_
    refine wk_cond_f rfl ?_
    refine wk_exit ?_
    refine wk_seq ?_
    refine wk_region ?_
    refine lx_value (want rfl) (as_int rfl) ?_
    refine lx_nil ?_
    refine wk_ret ?_
    refine retR1 Tryd.results88 (.tmp (t_int rfl)) F1 ?_
    exact idx_none hq0 hlt

theorem bit_ct (a b : Nat) (ha : a < 8) (hb : b < 8) (w0 : World) :
    CT Tryd.prog 77 [.int .i64 a, .int .i64 b] w0 no (fun v _ => v = .int .i64 (bitN a b)) := by
  have F0 := Fr.refl no w0
  refine ct_body Tryd.func77 rfl Tryd.ntmps77 (Nat.le_of_ble_eq_true rfl) ?_
  refine wk_seq ?_
  refine wk_region ?_
  refine lx_value (want rfl) (as_int rfl) ?_
  refine lx_nil ?_
  refine wk_seq ?_
  refine wk_seq ?_
  refine wk_region ?_
  refine lx_value (want rfl) (as_int rfl) ?_
  refine lx_nil ?_
  refine wk_block ?_
  refine wk_loopA [4, 5, 6, 7, 8, 9, 10, 11, 12, 13, 14, 15, 16, 17, 18, 19] no (fun nM ρ w => ∃ (k : Nat), nM = 3 - k ∧ ρ 5 = .int .i64 k ∧ (k ≤ 3) ∧ (BitSame k a b)) _ ⟨0, rfl, rfl, by omega, bitSame0 a b⟩ ?_
  rintro n1 ρ1 w1 A1 EL1 ⟨k, rfl, hs1_5, hk, hq⟩
  have F1 := F0.ext EL1
  have hzL1 := EL1.size
  refine wk_seq ?_
  refine wk_seq ?_
  refine wk_region ?_
  refine lx_value (want rfl) (mv_int hs1_5) ?_
  refine lx_value (want rfl) (rn_lss rfl rfl) ?_
  refine lx_dec (fun hlt => ?_) (fun hlt => ?_)
  ·
    refine lx_nil ?_
    refine wk_cond_t rfl ?_
    refine wk_skip ?_
    refine wk_seq ?_
    refine wk_block ?_
    refine wk_seq ?_
    refine wk_mix 8 (fun _ => .none) (by kernel_rfl) (by kernel_rfl) (fun kS G hk => by cases hk) (fun kS s y G hk => by cases hk) ?_
    simp only [List.take_succ_cons, List.take_zero, List.take_nil, List.drop_succ_cons, List.drop_zero, List.drop_nil]
    refine mx_calm rfl (want rfl) (fun u1 eu1 fu1 => mv_int (A1.at 0 rfl rfl)) ?_
    refine mx_calm rfl (want rfl) (fun u2 eu2 fu2 => mv_int hs1_5) ?_
    refine mx_calm rfl (want rfl) (fun u3 eu3 fu3 => rn_shr rfl rfl (by omega)) ?_
    refine mx_calm rfl (want rfl) (fun u4 eu4 fu4 => rn_and rfl (n := 1) rfl (by have := Nat.div_le_self a (2 ^ k); omega)) ?_
    refine mx_calm rfl (want rfl) (fun u5 eu5 fu5 => mv_int (A1.at 1 rfl rfl)) ?_
    refine mx_calm rfl (want rfl) (fun u6 eu6 fu6 => mv_int hs1_5) ?_
    refine mx_calm rfl (want rfl) (fun u7 eu7 fu7 => rn_shr rfl rfl (by omega)) ?_
    refine mx_calm rfl (want rfl) (fun u8 eu8 fu8 => rn_and rfl (n := 1) rfl (by have := Nat.div_le_self b (2 ^ k); omega)) ?_
    refine mx_nil (fun w2 E1' H1 HS => ?_)
    have E1 := (ext_drawn _).trans' E1'
    have F2 := F1.ext E1
    have hz1 := E1.size
    refine lx_value (want rfl) (rn_neq rfl rfl) ?_
    refine lx_dec (fun hne => ?_) (fun hne => ?_)
    ·
      refine lx_nil ?_
      refine wk_cond_t rfl ?_
      refine wk_seq ?_
      refine wk_region ?_
      refine lx_value (want rfl) (mv_int hs1_5) ?_
      refine lx_value (want rfl) (as_int rfl) ?_
      refine lx_nil ?_
      refine wk_ret ?_
      refine retR1 Tryd.results77 (.tmp (t_int rfl)) F2 ?_
      exact bit_found hq hlt hne
    ·
      refine lx_nil ?_
      refine wk_cond_f rfl ?_
      refine wk_skip ?_
      refine wk_region ?_
      refine lx_value (want rfl) (mv_int hs1_5) ?_
      refine lx_value (want rfl) (rn_add rfl rfl (by omega)) ?_
      refine lx_value (want rfl) (as_int rfl) ?_
      refine lx_nil ?_
      exact ⟨rfl, ((((((((((((((A1.up rfl _).up rfl _).up rfl _).up rfl _).up rfl _).up rfl _).up rfl _).up rfl _).up rfl _).up rfl _).up rfl _).up rfl _).up rfl _).up rfl _), (Fr.ext EL1 E1), _, (by omega), k + 1, rfl, rfl, by omega, (bitSame_succ hq hne)⟩
  ·
    refine lx_nil ?_
    refine wk_cond_f rfl ?_
    refine wk_exit ?_
    refine wk_seq ?_
    refine wk_region ?_
    refine lx_value (want rfl) (as_int rfl) ?_
    refine lx_nil ?_
    refine wk_ret ?_
    refine retR1 Tryd.results77 (.tmp (t_int rfl)) F1 ?_
    exact bit_none hq hk hlt ha hb

theorem many_ct (d r : Int) (L : List (List Pk)) (s : Option Addr) (c : Nat) (G : Nat → Prop) (hB : Bd L) (w0 : World) (hL : BufS G w0 s L) :
    CT Tryd.prog 72 [.agg #[.int .i64 d, .int .i64 r, .slice s L.length c]] w0 no (fun v _ => v = .int .i64 (manyN L : Nat)) := by
  have hBl := hB.1
  have hBm := hB.2
  have F0 := Fr.refl no w0
  refine ct_body Tryd.func72 rfl Tryd.ntmps72 (Nat.le_of_ble_eq_true rfl) ?_
  refine wk_seq ?_
  refine wk_region ?_
  refine lx_new (want rfl) (rn_box (t_agg rfl)) ?_
  intro b1 w1 hb1 Eb1 B1 hlb1
  have F1 := F0.ext Eb1
  have hzb1 := Eb1.size
  refine lx_value (want rfl) (as_int rfl) ?_
  refine lx_nil ?_
  refine wk_seq ?_
  refine wk_region ?_
  refine lx_value (want rfl) (as_int rfl) ?_
  refine lx_nil ?_
  refine wk_seq ?_
  refine wk_seq ?_
  refine wk_region ?_
  refine lx_value (want rfl) (as_int rfl) ?_
  refine lx_nil ?_
  refine wk_block ?_
  refine wk_loopA [3, 4, 5, 6, 7, 8, 9, 10, 11, 12, 13, 14, 15, 16, 17, 18, 19] no (fun nM ρ w => ∃ (i : Nat), nM = L.length - i ∧ ρ 3 = .int .i64 (manyN (L.take i) : Nat) ∧ ρ 4 = .int .i64 i ∧ (i ≤ L.length)) _ ⟨0, rfl, rfl, rfl, by omega⟩ ?_
  rintro n1 ρ1 w2 A1 EL1 ⟨i, rfl, hs1_3, hs1_4, hi⟩
  have F2 := F1.ext EL1
  have hzL1 := EL1.size
  have hmi := many_le L i
  have hmi1 := many_le L (i + 1)
  refine wk_seq ?_
  refine wk_seq ?_
  refine wk_region ?_
  refine lx_value (want rfl) (mv_int hs1_4) ?_
  refine lx_value (want rfl) (rn_fieldAddr fa_24_2 (A1.at 1 rfl rfl)) ?_
  refine lx_value (want rfl) (rn_load1Blk ag_22 rfl (B1.ext EL1) rfl) ?_
  refine lx_value (want rfl) (rn_len Tryd.underlying22 rfl) ?_
  refine lx_value (want rfl) (rn_lss rfl rfl) ?_
  refine lx_dec (fun hlt => ?_) (fun hlt => ?_)
  ·
    obtain ⟨l, hl⟩ := getx hlt
    obtain ⟨bx, ox, rfl, _, sx, cx, hcx, hpx⟩ := hL i l hl
    rw [many_step hl] at hmi1
    refine lx_nil ?_
    refine wk_cond_t rfl ?_
    refine wk_skip ?_
    refine wk_seq ?_
    refine wk_block ?_
    refine wk_region ?_
    refine lx_value (want rfl) (mv_int hs1_3) ?_
    refine lx_value (want rfl) (rn_fieldAddr fa_24_2 (A1.at 1 rfl rfl)) ?_
    refine lx_value (want rfl) (rn_load1Blk ag_22 rfl (B1.ext EL1) rfl) ?_
    refine lx_value (want rfl) (mv_int hs1_4) ?_
    refine lx_value (want rfl) (rn_index _ Tryd.underlying22 sz_49 rfl rfl rfl (by omega)) ?_
    refine lx_value (want rfl) (rn_load1 ag_49 rfl (F2.cell (fun h => h) hcx)) ?_
    refine lx_value (want rfl) (rn_len Tryd.underlying49 rfl) ?_
    refine lx_value (want rfl) (rn_addN rfl rfl (by omega)) ?_
    refine lx_value (want rfl) (as_int rfl) ?_
    refine lx_nil ?_
    refine wk_region ?_
    refine lx_value (want rfl) (mv_int hs1_4) ?_
    refine lx_value (want rfl) (rn_add rfl rfl (by omega)) ?_
    refine lx_value (want rfl) (as_int rfl) ?_
    refine lx_nil ?_
    exact ⟨rfl, (((((((((((((((((A1.up rfl _).up rfl _).up rfl _).up rfl _).up rfl _).up rfl _).up rfl _).up rfl _).up rfl _).up rfl _).up rfl _).up rfl _).up rfl _).up rfl _).up rfl _).up rfl _).up rfl _), EL1, _, (by omega), i + 1, rfl, (by rw [many_step hl]; exact rfl), rfl, by omega⟩
  ·
    refine lx_nil ?_
    refine wk_cond_f rfl ?_
    refine wk_exit ?_
    refine wk_seq ?_
    refine wk_region ?_
    refine lx_value (want rfl) (mv_int hs1_3) ?_
    refine lx_value (want rfl) (as_int rfl) ?_
    refine lx_nil ?_
    refine wk_ret ?_
    refine retR1 Tryd.results72 (.tmp (t_int rfl)) F2 ?_
    exact congrArg (fun n : Nat => Value.int .i64 (n : Int)) (many_end hlt)

theorem ones64_ct (x : Nat) (hx : x < 8) (w0 : World) :
    CT Tryd.prog 93 [.int .u64 x] w0 no (fun v _ => v = .int .i64 (popN x : Nat)) := by
  have F0 := Fr.refl no w0
  refine ct_body Tryd.func93 rfl Tryd.ntmps93 (Nat.le_of_ble_eq_true rfl) ?_
  refine wk_seq ?_
  refine wk_region ?_
  refine lx_value (want rfl) (as_int rfl) ?_
  refine lx_nil ?_
  refine wk_seq ?_
  refine wk_region ?_
  refine lx_value (want rfl) (mv_int rfl) ?_
  refine lx_value (want rfl) (rnU_shr rfl rfl (by decide)) ?_
  refine lx_value (want rfl) (rnU_and rfl rfl) ?_
  refine lx_value (want rfl) (mv_int rfl) ?_
  refine lx_value (want rfl) (rnU_and rfl rfl) ?_
  refine lx_value (want rfl) (rnU_add rfl rfl) ?_
  refine lx_value (want rfl) (as_int rfl) ?_
  refine lx_nil ?_
  refine wk_seq ?_
  refine wk_region ?_
  refine lx_value (want rfl) (mv_int rfl) ?_
  refine lx_value (want rfl) (rnU_shr rfl rfl (by decide)) ?_
  refine lx_value (want rfl) (rnU_and rfl rfl) ?_
  refine lx_value (want rfl) (mv_int rfl) ?_
  refine lx_value (want rfl) (rnU_and rfl rfl) ?_
  refine lx_value (want rfl) (rnU_add rfl rfl) ?_
  refine lx_value (want rfl) (as_int rfl) ?_
  refine lx_nil ?_
  refine wk_seq ?_
  refine wk_region ?_
  refine lx_value (want rfl) (mv_int rfl) ?_
  refine lx_value (want rfl) (rnU_shr rfl rfl (by decide)) ?_
  refine lx_value (want rfl) (mv_int rfl) ?_
  refine lx_value (want rfl) (rnU_add rfl rfl) ?_
  refine lx_value (want rfl) (rnU_and rfl rfl) ?_
  refine lx_value (want rfl) (as_int rfl) ?_
  refine lx_nil ?_
  refine wk_seq ?_
  refine wk_region ?_
  refine lx_value (want rfl) (mv_int rfl) ?_
  refine lx_value (want rfl) (mv_int rfl) ?_
  refine lx_value (want rfl) (rnU_shr rfl rfl (by decide)) ?_
  refine lx_value (want rfl) (rnU_add rfl rfl) ?_
  refine lx_value (want rfl) (as_int rfl) ?_
  refine lx_nil ?_
  refine wk_seq ?_
  refine wk_region ?_
  refine lx_value (want rfl) (mv_int rfl) ?_
  refine lx_value (want rfl) (mv_int rfl) ?_
  refine lx_value (want rfl) (rnU_shr rfl rfl (by decide)) ?_
  refine lx_value (want rfl) (rnU_add rfl rfl) ?_
  refine lx_value (want rfl) (as_int rfl) ?_
  refine lx_nil ?_
  refine wk_seq ?_
  refine wk_region ?_
  refine lx_value (want rfl) (mv_int rfl) ?_
  refine lx_value (want rfl) (mv_int rfl) ?_
  refine lx_value (want rfl) (rnU_shr rfl rfl (by decide)) ?_
  refine lx_value (want rfl) (rnU_add rfl rfl) ?_
  refine lx_value (want rfl) (as_int rfl) ?_
  refine lx_nil ?_
  refine wk_seq ?_
  refine wk_region ?_
  refine lx_value (want rfl) (mv_int rfl) ?_
  refine lx_value (want rfl) (rn_conv Tryd.underlying132 Tryd.underlying3 rfl rfl) ?_
  refine lx_value (want rfl) (rnU_and rfl rfl) ?_
  refine lx_value (want rfl) (as_int rfl) ?_
  refine lx_nil ?_
  refine wk_ret ?_
  refine retR1 Tryd.results93 (.tmp (t_int rfl)) F0 ?_
  rcases lt8 hx with rfl | rfl | rfl | rfl | rfl | rfl | rfl | rfl <;> exact congrArg (Value.int .i64) (by decide +kernel)

theorem clone_ct (l : List Pk) (s : Option Addr) (c : Nat) (F : Nat → Prop) (w0 : World) (hl : PkS F w0 s l) (hb : l.length ≤ 1048576) :
    CT Tryd.prog 79 [.slice s l.length c] w0 no (fun v w => ∃ s' c', v = .slice s' l.length c' ∧ OwnS w 41 3 s' l.length c' (l.flatMap pkC) ∧ ∀ k, ob s' k → w0.heap.size ≤ k) := by
  have F0 := Fr.refl no w0
  refine ct_body Tryd.func79 rfl Tryd.ntmps79 (Nat.le_of_ble_eq_true rfl) ?_
  refine wk_seq ?_
  refine wk_region ?_
  refine lx_value (want rfl) (as_slice rfl) ?_
  refine lx_nil ?_
  refine wk_seq ?_
  refine wk_seq ?_
  refine wk_region ?_
  refine lx_value (want rfl) (mv_slice rfl) ?_
  refine lx_value (want rfl) (rn_eqlNil Tryd.underlying49 rfl rfl) ?_
  refine lx_split (fun h4 => ?_) (fun h4 => ?_)
  ·
    obtain rfl := clone_nil hl h4
    refine lx_nil ?_
    refine wk_cond_t rfl ?_
    refine wk_seq ?_
    refine wk_region ?_
    refine lx_value (want rfl) (as_slice rfl) ?_
    refine lx_nil ?_
    refine wk_ret ?_
    refine retR1 Tryd.results79 (.tmp (t_slice rfl)) F0 ?_
    exact ⟨_, _, rfl, OwnS.nil _ _ _, fun _ h => ob_none h⟩
  ·
    refine lx_nil ?_
    refine wk_cond_f rfl ?_
    refine wk_skip ?_
    refine wk_seq ?_
    refine wk_region ?_
    refine lx_newS (want rfl) (rn_bslice (xs := []) Tryd.underlying49 sz_41 ze_41 rfl args0 CL.nil rfl (Nat.le_of_ble_eq_true rfl)) ?_
    intro b1 w1 hb1 Eb1 B1 hlb1
    have F1 := F0.ext Eb1
    have hzb1 := Eb1.size
    have ow1 := OwnS.full (n := 0) (size := 3) B1 rfl (by decide)
    have ge1 : ∀ k, ob (some (⟨b1, 0, none⟩ : Addr)) k → w0.heap.size ≤ k := fun k hk => by have := ob_some hk; omega
    refine lx_value (want rfl) (mv_slice rfl) ?_
    refine lx_append 24 (want rfl) Tryd.underlying49 ti_41 (by decide) rfl (by decide) rfl rfl ow1 ((hl.fr (pk_stab _) F1 (fun _ _ h => h)).src (fun _ _ => rfl) (fun _ _ u hu => pk_one hu) (by decide)) (by omega) ?_
    intro sq2 cq2 w2 AP2
    have EA2 := AP2.fr
    have ow2 := AP2.own
    have ge2 : ∀ k, ob sq2 k → w0.heap.size ≤ k := fun k hk => (AP2.blk k hk).elim (ge1 k) (fun h => Nat.le_trans F1.size h)
    have F2 := F1.new EA2 ge1
    have hzA2 := EA2.size
    refine lx_value (want rfl) (as_slice rfl) ?_
    refine lx_nil ?_
    refine wk_ret ?_
    refine retR1 Tryd.results79 (.tmp (t_slice rfl)) F2 ?_
    exact ⟨_, _, by rw [Nat.zero_add], by have h := ow2; simpa using h, ge2⟩

theorem switches_ct (d : Nat) (hd : d ≤ 3) (w0 : World) :
    CT Tryd.prog 37 [.int .i64 d] w0 no (fun v _ => v = .int .i64 ((2 ^ d : Nat) : Int)) := by
  have F0 := Fr.refl no w0
  refine ct_body Tryd.func37 rfl Tryd.ntmps37 (Nat.le_of_ble_eq_true rfl) ?_
  refine wk_seq ?_
  refine wk_region ?_
  refine lx_value (want rfl) (as_int rfl) ?_
  refine lx_nil ?_
  refine wk_seq ?_
  refine wk_region ?_
  refine lx_value (want rfl) (as_int rfl) ?_
  refine lx_nil ?_
  refine wk_seq ?_
  refine wk_seq ?_
  refine wk_region ?_
  refine lx_value (want rfl) (as_int rfl) ?_
  refine lx_nil ?_
  refine wk_block ?_
  refine wk_loopA [3, 4, 5, 6, 7, 8, 9, 10, 11] no (fun nM ρ w => ∃ (k : Nat), nM = d - k ∧ ρ 3 = .int .i64 ((2 ^ k : Nat) : Int) ∧ ρ 4 = .int .i64 k ∧ (k ≤ d)) _ ⟨0, rfl, rfl, rfl, by omega⟩ ?_
  rintro n1 ρ1 w1 A1 EL1 ⟨k, rfl, hs1_3, hs1_4, hk⟩
  have F1 := F0.ext EL1
  have hzL1 := EL1.size
  have hp := pow2_le k hk hd
  refine wk_seq ?_
  refine wk_seq ?_
  refine wk_region ?_
  refine lx_value (want rfl) (mv_int hs1_4) ?_
  refine lx_value (want rfl) (mv_int (A1.at 0 rfl rfl)) ?_
  refine lx_value (want rfl) (rn_lss rfl rfl) ?_
  refine lx_dec (fun hlt => ?_) (fun hlt => ?_)
  ·
    refine lx_nil ?_
    refine wk_cond_t rfl ?_
    refine wk_skip ?_
    refine wk_seq ?_
    refine wk_block ?_
    refine wk_region ?_
    refine lx_value (want rfl) (mv_int hs1_3) ?_
    refine lx_value (want rfl) (rn_mulN rfl (n := 2) rfl (by omega)) ?_
    refine lx_value (want rfl) (as_int rfl) ?_
    refine lx_nil ?_
    refine wk_region ?_
    refine lx_value (want rfl) (mv_int hs1_4) ?_
    refine lx_value (want rfl) (rn_add rfl rfl (by omega)) ?_
    refine lx_value (want rfl) (as_int rfl) ?_
    refine lx_nil ?_
    exact ⟨rfl, (((((((((A1.up rfl _).up rfl _).up rfl _).up rfl _).up rfl _).up rfl _).up rfl _).up rfl _).up rfl _), EL1, _, (by omega), k + 1, rfl, (pow2_succ k), rfl, by omega⟩
  ·
    refine lx_nil ?_
    refine wk_cond_f rfl ?_
    refine wk_exit ?_
    refine wk_seq ?_
    refine wk_region ?_
    refine lx_value (want rfl) (mv_int hs1_3) ?_
    refine lx_value (want rfl) (as_int rfl) ?_
    refine lx_nil ?_
    refine wk_ret ?_
    refine retR1 Tryd.results37 (.tmp (t_int rfl)) F1 ?_
    exact pow2_end hk hlt

theorem within1_ct (z a b : Int) (b3 b4 : Nat) (w0 : World) (B3 : Blk w0 b3 [.int .i64 a] 3) (B4 : Blk w0 b4 [.int .i64 b] 3) :
    CT Tryd.prog 73 [.int .i64 z, .pointer (some ⟨b3, 0, none⟩), .pointer (some ⟨b4, 0, none⟩)] w0 no (fun v _ => v = .bool (outB a b z)) := by
  have F0 := Fr.refl no w0
  refine ct_body Tryd.func73 rfl Tryd.ntmps73 (Nat.le_of_ble_eq_true rfl) ?_
  refine wk_seq ?_
  refine wk_region ?_
  refine lx_value (want rfl) (as_bool rfl) ?_
  refine lx_nil ?_
  refine wk_seq ?_
  refine wk_region ?_
  refine lx_value (want rfl) (mv_int rfl) ?_
  refine lx_value (want rfl) (rn_load1Blk ag_3 rfl B3 rfl) ?_
  refine lx_value (want rfl) (rn_lss rfl rfl) ?_
  refine lx_dec (fun hlt => ?_) (fun hlt => ?_)
  ·
    refine lx_value (want rfl) (mv_bool rfl) ?_
    refine lx_skip (want_if (j := 3) (d := 8) (x := false) (y := true) rfl rfl (by decide) rfl) ?_
    refine lx_skip (want_if (j := 3) (d := 8) (x := false) (y := true) rfl rfl (by decide) rfl) ?_
    refine lx_skip (want_if (j := 3) (d := 8) (x := false) (y := true) rfl rfl (by decide) rfl) ?_
    refine lx_value (want rfl) (pick_t rfl rfl) ?_
    refine lx_value (want rfl) (as_bool rfl) ?_
    refine lx_nil ?_
    refine wk_ret ?_
    refine retR1 Tryd.results73 (.tmp (t_bool rfl)) F0 ?_
    exact out_t hlt
  ·
    refine lx_value (want rfl) (mv_bool rfl) ?_
    refine lx_value (want_if (j := 3) (d := 8) (x := false) (y := false) rfl rfl (by decide) rfl) (mv_int rfl) ?_
    refine lx_value (want_if (j := 3) (d := 8) (x := false) (y := false) rfl rfl (by decide) rfl) (rn_load1Blk ag_3 rfl B4 rfl) ?_
    refine lx_value (want_if (j := 3) (d := 8) (x := false) (y := false) rfl rfl (by decide) rfl) (rn_gtr rfl rfl) ?_
    refine lx_value (want rfl) (pick_f rfl rfl) ?_
    refine lx_value (want rfl) (as_bool rfl) ?_
    refine lx_nil ?_
    refine wk_ret ?_
    refine retR1 Tryd.results73 (.tmp (t_bool rfl)) F0 ?_
    exact out_f hlt

theorem cbuffer_ct (dim : Nat) (r : Int) (s : Option Addr) (n c : Nat) (hd : dim ≤ 3) (a k : Nat) (ha : a < 8) (hk : k ≤ 3) (w0 : World) :
    CT Tryd.prog 85 [.agg #[.int .i64 dim, .int .i64 r, .slice s n c], .agg #[.int .i64 a, .int .i64 k]] w0 no (fun v _ => v = .int .i64 (a * (dim + 1) + k : Nat)) := by
  have hq : a * (dim + 1) ≤ 8 * 4 := Nat.mul_le_mul (by omega) (by omega)
  have F0 := Fr.refl no w0
  refine ct_body Tryd.func85 rfl Tryd.ntmps85 (Nat.le_of_ble_eq_true rfl) ?_
  refine wk_seq ?_
  refine wk_region ?_
  refine lx_new (want rfl) (rn_box (t_agg rfl)) ?_
  intro b1 w1 hb1 Eb1 B1 hlb1
  have F1 := F0.ext Eb1
  have hzb1 := Eb1.size
  refine lx_new (want rfl) (rn_box (t_agg rfl)) ?_
  intro b2 w2 hb2 Eb2 B2 hlb2
  have F2 := F1.ext Eb2
  have hzb2 := Eb2.size
  refine lx_value (want rfl) (as_int rfl) ?_
  refine lx_nil ?_
  refine wk_seq ?_
  refine wk_region ?_
  refine lx_value (want rfl) (rn_fieldAddr fa_82_0 rfl) ?_
  refine lx_value (want rfl) (rn_load1Blk ag_3 rfl B2 rfl) ?_
  refine lx_value (want rfl) (rn_fieldAddr fa_76_0 rfl) ?_
  refine lx_value (want rfl) (rn_fieldAddr fa_24_0 rfl) ?_
  refine lx_value (want rfl) (rn_load1Blk ag_3 rfl (B1.ext Eb2) rfl) ?_
  refine lx_value (want rfl) (rn_addN rfl (n := 1) rfl (by omega)) ?_
  refine lx_value (want rfl) (rn_mulN rfl rfl (by omega)) ?_
  refine lx_value (want rfl) (rn_fieldAddr fa_82_1 rfl) ?_
  refine lx_value (want rfl) (rn_load1Blk ag_3 rfl B2 rfl) ?_
  refine lx_value (want rfl) (rn_addN rfl rfl (by omega)) ?_
  refine lx_value (want rfl) (as_int rfl) ?_
  refine lx_nil ?_
  refine wk_ret ?_
  refine retR1 Tryd.results85 (.tmp (t_int rfl)) F2 ?_
  exact rfl

theorem tz64_ct (x : Nat) (h0 : 0 < x) (h8 : x < 8) (w0 : World) (hT : Tb w0 1) :
    CT Tryd.prog 95 [.int .u64 x] w0 no (fun v _ => v = .int .i64 (tzN x : Nat)) := by
  obtain ⟨kk, hk, hk64, hv⟩ := tz_idx x h0 h8
  have F0 := Fr.refl no w0
  refine ct_body Tryd.func95 rfl Tryd.ntmps95 (Nat.le_of_ble_eq_true rfl) ?_
  refine wk_seq ?_
  refine wk_region ?_
  refine lx_value (want rfl) (as_int rfl) ?_
  refine lx_nil ?_
  refine wk_seq ?_
  refine wk_seq ?_
  refine wk_region ?_
  refine lx_value (want rfl) (mv_int rfl) ?_
  refine lx_value (want rfl) (rn_eql rfl rfl) ?_
  refine lx_dec_f ((by omega)) ?_
  refine lx_nil ?_
  refine wk_cond_f rfl ?_
  refine wk_skip ?_
  refine wk_seq ?_
  refine wk_region ?_
  refine lx_value (want rfl) (mv_int rfl) ?_
  refine lx_value (want rfl) (mv_int rfl) ?_
  refine lx_value (want rfl) (rnU_neg rfl) ?_
  refine lx_value (want rfl) (rnU_and rfl rfl) ?_
  refine lx_value (want rfl) (rnU_mul rfl rfl) ?_
  refine lx_value (want rfl) (rnU_shr rfl rfl (by decide)) ?_
  refine lx_value (want rfl) (rn_indexA kk Tryd.underlying135 sz_5 rfl rfl hk hk64) ?_
  refine lx_value (want rfl) (rn_load1 ag_5 rfl (hT _ _ (by rw [Nat.zero_add, Nat.mul_one]; exact hv))) ?_
  refine lx_value (want rfl) (rn_conv Tryd.underlying5 Tryd.underlying3 rfl tz_out) ?_
  refine lx_value (want rfl) (as_int rfl) ?_
  refine lx_nil ?_
  refine wk_ret ?_
  refine retR1 Tryd.results95 (.tmp (t_int rfl)) F0 ?_
  exact rfl

theorem cway_ct (p1 p2 p3 : Int) (dim : Int) (w0 : World) :
    CT Tryd.prog 49 [.agg #[.int .i64 p1, .int .i64 p2, .int .i64 p3], .int .i64 dim] w0 no (fun v w => ∃ b1 b2, v = .func (.func 75) #[] #[.pointer (some ⟨b1, 0, none⟩), .pointer (some ⟨b2, 0, none⟩)] ∧ Blk w b1 [.int .i64 p1, .int .i64 p2, .int .i64 p3] 41 ∧ Blk w b2 [.int .i64 dim] 3 ∧ w0.heap.size ≤ b1 ∧ w0.heap.size ≤ b2) := by
  have F0 := Fr.refl no w0
  refine ct_body Tryd.func49 rfl Tryd.ntmps49 (Nat.le_of_ble_eq_true rfl) ?_
  refine wk_seq ?_
  refine wk_region ?_
  refine lx_new (want rfl) (rn_box (t_agg rfl)) ?_
  intro b1 w1 hb1 Eb1 B1 hlb1
  have F1 := F0.ext Eb1
  have hzb1 := Eb1.size
  refine lx_new (want rfl) (rn_box (t_int rfl)) ?_
  intro b2 w2 hb2 Eb2 B2 hlb2
  have F2 := F1.ext Eb2
  have hzb2 := Eb2.size
  refine lx_value (want rfl) (as_nilFunc rfl) ?_
  refine lx_nil ?_
  refine wk_seq ?_
  refine wk_region ?_
  refine lx_value (want rfl) (rn_makeFunc (argsC (t_pointer rfl) (argsC (t_pointer rfl) args0))) ?_
  refine lx_value (want rfl) (as_func rfl) ?_
  refine lx_nil ?_
  refine wk_ret ?_
  refine retR1 Tryd.results49 (.tmp (t_func rfl)) F2 ?_
  exact ⟨_, _, rfl, (B1.ext Eb2), B2, by omega, by omega⟩

end Go.Proofs.YtlfclnkoimfhmaaDoor

/- What functions compute: goes1, refill, adda, addb, shapes, segs1, operations, args. -/
import Derived.Test.YtgnnegfnpgnbbaaGreatDoorHomesFacts
import Derived.Test.YtgnnegfnpgnbbaaGreatDoorHomesPre
set_option maxRecDepth 100000
set_option linter.unusedVariables false
set_option linter.unusedSimpArgs false
namespace Go.Proofs.YtgnnegfnpgnbbaaGreatDoor
open Go Go.RowKit Go.Mix Go.Eng
theorem goes1_ct (ln bq : Nat) (F : Nat → Prop) (p : Option Addr) (g : Sg) (ss : Option Addr) (cs : Nat) (si : Option Addr) (ci : Nat) (hsi : smallI g.ins = true) (hsd : smallD g.st = true) (K : List Go1 → World → Prop) (Z : World → Prop) (w0 : World) (h0 : K (goesL g) w0) (hbx : ∀ r w, K r w → Blk w bq [.pointer p, .string g.nm, .int .i64 (g.ex : Nat), .slice ss g.st.length cs, .slice si g.ins.length ci] 193 ∧ GRd F w g ss si ci) (hfr : ∀ r w, K r w → Fr (fun k => ¬ F k) w0 w) (hZ : ∀ w, Z w → Fr (fun _ => True) w0 w) (hY : ∀ (x : Go1) r w1 w2 (s : Option Addr) (c : Nat), DsS F w2 s x.2 ∧ x.2.length ≤ 1000 → K (x :: r) w1 → Ext w1 w2 → Yd Tryz.prog ln [.agg #[.int .i64 x.1.1, .int .i64 x.1.2], .slice s x.2.length c] w2 (fun c w3 => w2.heap.size ≤ w3.heap.size ∧ Nx (K r w3) (Z w3) c)) :
  CT Tryz.prog 162 [.func (.yield ln) #[] #[], .pointer (some ⟨bq, 0, none⟩)] w0 (fun _ => True) (fun _ w => (∃ w1, K [] w1 ∧ Ext w1 w) ∨ ∃ w1, Z w1 ∧ Ext w1 w) := by
 obtain ⟨B20, hg⟩ := hbx _ _ h0
 have hg0 := hg
 obtain ⟨hgs, hgi, hgr⟩ := hg0
 have hsl := smallI_len hsi
 have hnl := nodesN_le g.ins
 have hdl := smallD_len hsd
 have F0 := Fr.refl (fun _ => True) w0
 refine ct_body Tryz.func162 rfl Tryz.ntmps162 (Nat.le_of_ble_eq_true rfl) ?_
 refine wk_seq ?_
 refine wk_seq ?_
 refine wk_region ?_
 refine lx_value (want rfl) (rn_fieldAddr fa_193_1 rfl) ?_
 refine lx_value (want rfl) (rn_fieldAddr fa_181_2 rfl) ?_
 refine lx_value (want rfl) (rn_load1Blk ag_71 rfl B20 rfl) ?_
 refine lx_value (want rfl) (rn_len Tryz.underlying71 rfl) ?_
 refine lx_value (want rfl) (mv_int rfl) ?_
 refine lx_nil ?_
 refine wk_block ?_
 refine wk_loopA [3, 4, 13, 14, 15, 16, 17, 18, 19, 20, 21, 22, 23, 24] (fun j => (fun _ => True) j ∨ w0.heap.size ≤ j) (fun nM ρ w => ∃ (i : Nat), nM = g.st.length - i ∧ ρ 13 = .int .i64 i ∧ (∃ w1, K (goesS (g.st.drop i) i ++ goesI g.ins 0) w1 ∧ Ext w1 w) ∧ (i ≤ g.st.length)) _ ⟨0, rfl, rfl, ⟨_, h0, Fr.refl no _⟩, by omega⟩ ?_
 rintro n1 ρ1 w1 A1 EL1 ⟨i, rfl, hs1_13, hK, hi⟩
 have F1 := F0.wide EL1
 have hzL1 := EL1.size
 obtain ⟨wK, hK, EK⟩ := hK
 have BK := (hbx _ _ hK).1.ext EK
 have HF := (hfr _ _ hK).ext EK
 have hlK := BK.lt
 refine wk_seq ?_
 refine wk_region ?_
 refine lx_value (want rfl) (rn_lss hs1_13 (A1.at 12 rfl rfl)) ?_
 refine lx_dec (fun hlt => ?_) (fun hlt => ?_)
 ·
  obtain ⟨d, hd⟩ := getx hlt
  obtain ⟨bx, ox, hsx, hFx, s, c, hcx, hdx⟩ := hgs i d hd
  subst hsx
  have hKc := hK
  rw [drop_at hd] at hKc
  refine lx_nil ?_
  refine wk_seq ?_
  refine wk_cond_t rfl ?_
  refine wk_skip ?_
  refine wk_seq ?_
  refine wk_block ?_
  refine wk_seq ?_
  refine wk_region ?_
  refine lx_value (want rfl) (mv_int hs1_13) ?_
  refine lx_value (want rfl) (rn_index _ Tryz.underlying71 sz_76 (A1.at 11 rfl rfl) hs1_13 rfl (by omega)) ?_
  refine lx_value (want rfl) (rn_load1 ag_76 rfl ((HF.ext (Fr.refl no w1)).cell (fun n => n hFx) hcx)) ?_
  refine lx_value (want rfl) (as_int rfl) ?_
  refine lx_value (want rfl) (as_slice rfl) ?_
  refine lx_nil ?_
  refine wk_seq ?_
  refine wk_region ?_
  refine lx_value (want rfl) (mv_func (A1.at 0 rfl rfl)) ?_
  refine lx_value (want rfl) (mv_int rfl) ?_
  refine lx_value (want rfl) (rn_build2 (t_int rfl) (t_int rfl) (fun w => bd_219_0_1 _ _ w)) ?_
  refine lx_value (want rfl) (mv_slice rfl) ?_
  refine lx_yield (want rfl) rfl (argsC (t_agg rfl) (argsC (t_slice rfl) args0)) (hY _ _ wK w1 s c ⟨hdx.fr (ds_stab F) (HF.ext (Fr.refl no w1)) nn, smallD_at hsd hd⟩ hKc (EK.trans' (Fr.refl no w1))) ?_
  intro cY w2 ⟨hzY, HY⟩
  refine lx_split (fun h22 => ?_) (fun h22 => ?_)
  ·
   subst h22
   have HY : K _ _ := HY
   have FYK := hfr _ _ HY
   have FY := FYK.mono (fun _ _ _ => trivial : ∀ i, i < w0.heap.size → ¬ F i → (fun _ => True) i)
   refine lx_value (want rfl) (rn_not rfl) ?_
   refine lx_nil ?_
   refine wk_cond_f rfl ?_
   refine wk_skip ?_
   refine wk_region ?_
   refine lx_value (want rfl) (rn_add hs1_13 rfl (by omega)) ?_
   refine lx_value (want rfl) (mv_int rfl) ?_
   refine lx_nil ?_
   exact ⟨rfl, ((((((((((((((A1.up rfl _).up rfl _).up rfl _).up rfl _).up rfl _).up rfl _).up rfl _).up rfl _).up rfl _).up rfl _).up rfl _).up rfl _).up rfl _).up rfl _), Fr.between F0 FY (by omega), _, (by omega), i + 1, rfl, rfl, ⟨_, HY, Fr.refl no _⟩, by omega⟩
  ·
   subst h22
   have HY : Z _ := HY
   have FY := hZ _ HY
   refine lx_value (want rfl) (rn_not rfl) ?_
   refine lx_nil ?_
   refine wk_cond_t rfl ?_
   refine wk_ret ?_
   refine ret0 Tryz.results162 FY ?_
   exact .inr ⟨_, HY, Fr.refl no _⟩
 ·
  refine lx_nil ?_
  refine wk_seq ?_
  refine wk_cond_f rfl ?_
  refine wk_exit ?_
  refine wk_seq ?_
  refine wk_region ?_
  refine lx_value (want rfl) (rn_fieldAddr fa_193_1 (A1.at 1 rfl rfl)) ?_
  refine lx_value (want rfl) (rn_fieldAddr fa_181_3 rfl) ?_
  refine lx_value (want rfl) (rn_load1Blk ag_33 rfl BK rfl) ?_
  refine lx_value (want rfl) (rn_len Tryz.underlying33 rfl) ?_
  refine lx_value (want rfl) (mv_int rfl) ?_
  refine lx_nil ?_
  refine wk_block ?_
  refine wk_loopA [5, 6, 7, 8, 29, 30, 31, 32, 33, 34, 35, 36, 37, 38, 39, 40, 41, 42, 43, 44, 45, 46, 47, 48, 49, 50] (fun j => (fun _ => True) j ∨ w0.heap.size ≤ j) (fun nM ρ w => ∃ (n : Nat), nM = g.ins.length - n ∧ ρ 29 = .int .i64 n ∧ (∃ w1, K (goesI (g.ins.drop n) n) w1 ∧ Ext w1 w) ∧ (n ≤ g.ins.length)) _ ⟨0, rfl, rfl, ⟨wK, (by rw [drop_end hlt] at hK; exact hK), EK.trans' (Fr.refl no w1)⟩, by omega⟩ ?_
  rintro n2 ρ2 w2 A2 EL2 ⟨n, rfl, hs2_29, hK1, hn⟩
  have F2 := F1.wide EL2
  have hzL2 := EL2.size
  obtain ⟨wK1, hK1, EK1⟩ := hK1
  have BK1 := (hbx _ _ hK1).1.ext EK1
  have HF1 := (hfr _ _ hK1).ext EK1
  have hlK1 := BK1.lt
  refine wk_seq ?_
  refine wk_region ?_
  refine lx_value (want rfl) (rn_lss hs2_29 (A2.at 28 rfl rfl)) ?_
  refine lx_dec (fun hlt1 => ?_) (fun hlt1 => ?_)
  ·
   obtain ⟨x, hx⟩ := getx hlt1
   obtain ⟨by_, oy, hsy, hFy, so, co, hcy, hco⟩ := hgi n x hx
   subst hsy
   have hKn := hK1
   rw [drop_at hx] at hKn
   have hsx := smallD_len (smallI_at hsi hx)
   refine lx_nil ?_
   refine wk_seq ?_
   refine wk_cond_t rfl ?_
   refine wk_skip ?_
   refine wk_seq ?_
   refine wk_block ?_
   refine wk_seq ?_
   refine wk_region ?_
   refine lx_value (want rfl) (mv_int hs2_29) ?_
   refine lx_value (want rfl) (rn_index _ Tryz.underlying33 sz_73 (A2.at 27 rfl rfl) hs2_29 rfl (by omega)) ?_
   refine lx_value (want rfl) (rn_loadN ag_73 sz_73 rfl rfl (hcy.fr (HF1.ext (Fr.refl no w2)) (fun n => n hFy))) ?_
   refine lx_new (want rfl) (rn_alloc ze_73) ?_
   intro b21 w3 hb21 Eb21 B21 hlb21
   have F3 := F2.ext Eb21
   have hzb21 := Eb21.size
   refine lx_value (want rfl) (as_int rfl) ?_
   refine lx_set (want rfl) sz_73 rfl (t_agg rfl) rfl rfl rfl B21 (Nat.le_of_ble_eq_true rfl) ?_
   intro w4 Es1 Bs1
   have F4 := F3.set Es1 (by omega)
   have hzs1 := Es1.size
   refine lx_nil ?_
   refine wk_seq ?_
   refine wk_region ?_
   refine lx_value (want rfl) (rn_fieldAddr fa_73_3 rfl) ?_
   refine lx_value (want rfl) (rn_load1Blk ag_71 rfl Bs1 rfl) ?_
   refine lx_value (want rfl) (rn_len Tryz.underlying71 rfl) ?_
   refine lx_value (want rfl) (mv_int rfl) ?_
   refine lx_nil ?_
   refine wk_block ?_
   refine wk_loopA [7, 8, 37, 38, 39, 40, 41, 42, 43, 44, 45, 46, 47, 48, 49] (fun j => (fun _ => True) j ∨ w0.heap.size ≤ j) (fun nM ρ w => ∃ (j : Nat), nM = x.outs.length - j ∧ ρ 37 = .int .i64 j ∧ (∃ w1, K (goesO n (x.outs.drop j) j ++ goesI (g.ins.drop (n + 1)) (n + 1)) w1 ∧ Ext w1 w) ∧ (j ≤ x.outs.length)) _ ⟨0, rfl, rfl, ⟨wK1, hKn, EK1.trans' ((Fr.trans (Fr.ext (Fr.refl (fun k => k = b21) w2) Eb21) Es1 (fun k _ h => h)).mono (fun i hi h => by have h : i = b21 := h; exact absurd hi (by omega)))⟩, by omega⟩ ?_
   rintro n3 ρ3 w5 A3 EL3 ⟨j, rfl, hs3_37, hK2, hj⟩
   have F5 := F4.wide EL3
   have hzL3 := EL3.size
   obtain ⟨wK2, hK2, EK2⟩ := hK2
   have BK2 := (hbx _ _ hK2).1.ext EK2
   have HF2 := (hfr _ _ hK2).ext EK2
   have hlK2 := BK2.lt
   refine wk_seq ?_
   refine wk_region ?_
   refine lx_value (want rfl) (rn_lss hs3_37 (A3.at 36 rfl rfl)) ?_
   refine lx_dec (fun hlt2 => ?_) (fun hlt2 => ?_)
   ·
    obtain ⟨d, hd⟩ := getx hlt2
    obtain ⟨bz, oz, hsz, hFz, s, c, hcz, hdz⟩ := hco j d hd
    subst hsz
    have hKc := hK2
    rw [drop_at hd] at hKc
    refine lx_nil ?_
    refine wk_seq ?_
    refine wk_cond_t rfl ?_
    refine wk_skip ?_
    refine wk_seq ?_
    refine wk_block ?_
    refine wk_seq ?_
    refine wk_region ?_
    refine lx_value (want rfl) (mv_int hs3_37) ?_
    refine lx_value (want rfl) (rn_index _ Tryz.underlying71 sz_76 (A3.at 35 rfl rfl) hs3_37 rfl (by omega)) ?_
    refine lx_value (want rfl) (rn_load1 ag_76 rfl ((HF2.ext (Fr.refl no w5)).cell (fun n => n hFz) hcz)) ?_
    refine lx_value (want rfl) (as_int rfl) ?_
    refine lx_value (want rfl) (as_slice rfl) ?_
    refine lx_nil ?_
    refine wk_seq ?_
    refine wk_region ?_
    refine lx_value (want rfl) (mv_func (A3.at 0 rfl (A2.at 0 rfl (A1.at 0 rfl rfl)))) ?_
    refine lx_value (want rfl) (mv_int (A3.at 5 rfl rfl)) ?_
    refine lx_value (want rfl) (mv_int rfl) ?_
    refine lx_value (want rfl) (rn_build2 (t_int rfl) (t_int rfl) (fun w => bd_219_0_1 _ _ w)) ?_
    refine lx_value (want rfl) (mv_slice rfl) ?_
    refine lx_yield (want rfl) rfl (argsC (t_agg rfl) (argsC (t_slice rfl) args0)) (hY _ _ wK2 w5 s c ⟨hdz.fr (ds_stab F) (HF2.ext (Fr.refl no w5)) nn, smallD_at (smallI_at hsi hx) hd⟩ hKc (EK2.trans' (Fr.refl no w5))) ?_
    intro cY w6 ⟨hzY, HY⟩
    refine lx_split (fun h47 => ?_) (fun h47 => ?_)
    ·
     subst h47
     have HY : K _ _ := HY
     have FYK := hfr _ _ HY
     have FY := FYK.mono (fun _ _ _ => trivial : ∀ i, i < w0.heap.size → ¬ F i → (fun _ => True) i)
     refine lx_value (want rfl) (rn_not rfl) ?_
     refine lx_nil ?_
     refine wk_cond_f rfl ?_
     refine wk_skip ?_
     refine wk_region ?_
     refine lx_value (want rfl) (rn_add hs3_37 rfl (by omega)) ?_
     refine lx_value (want rfl) (mv_int rfl) ?_
     refine lx_nil ?_
     exact ⟨rfl, (((((((((((((((A3.up rfl _).up rfl _).up rfl _).up rfl _).up rfl _).up rfl _).up rfl _).up rfl _).up rfl _).up rfl _).up rfl _).up rfl _).up rfl _).up rfl _).up rfl _), Fr.between F4 FY (by omega), _, (by omega), j + 1, rfl, rfl, ⟨_, HY, Fr.refl no _⟩, by omega⟩
    ·
     subst h47
     have HY : Z _ := HY
     have FY := hZ _ HY
     refine lx_value (want rfl) (rn_not rfl) ?_
     refine lx_nil ?_
     refine wk_cond_t rfl ?_
     refine wk_ret ?_
     refine ret0 Tryz.results162 FY ?_
     exact .inr ⟨_, HY, Fr.refl no _⟩
   ·
    refine lx_nil ?_
    refine wk_seq ?_
    refine wk_cond_f rfl ?_
    refine wk_exit ?_
    refine wk_region ?_
    refine lx_value (want rfl) (rn_add (A3.at 29 rfl hs2_29) rfl (by omega)) ?_
    refine lx_value (want rfl) (mv_int rfl) ?_
    refine lx_nil ?_
    exact ⟨rfl, (((((((((((((((A2.up rfl _).up rfl _).up rfl _).up rfl _).up rfl _).up rfl _).none _).up rfl _).up rfl _).up rfl _).up rfl _).loop A3 rfl).up rfl _).up rfl _).up rfl _), Fr.between F1 F5 (by omega), _, (by omega), n + 1, rfl, rfl, ⟨wK2, (by rw [drop_end hlt2] at hK2; exact hK2), EK2.trans' (Fr.refl no w5)⟩, by omega⟩
  ·
   refine lx_nil ?_
   refine wk_seq ?_
   refine wk_cond_f rfl ?_
   refine wk_exit ?_
   (try simp only [thenK, blockK, if_true])
   refine retN ?_
   refine ret0 Tryz.results162 F2 ?_
   exact .inl ⟨wK1, (by rw [drop_end hlt1] at hK1; exact hK1), EK1.trans' (Fr.refl no w2)⟩

theorem refill_ct (Z : Nat → Prop) (b : Nat) (u0 u1 u5 : Value) (rm : Nat) (s1 : Option Addr) (c1 : Nat) (s2 : Option Addr) (c2 : Nat) (G : Nat → Prop) (x : Ent) (sx : Option Addr) (cx : Nat) (hZb50 : Z b) (hZo1 : ∀ k, ob s1 k → Z k) (hnb : ∀ k, ob s1 k → k ≠ b) (hrm : 1 ≤ rm) (b2 o2 : Nat) (hs2 : s2 = some ⟨b2, o2, none⟩) (hZ2 : ¬ Z b2) (w0 : World) (hB : Blk w0 b (elL u0 u1 rm s1 0 c1 s2 1 c2 u5) 90) (hO : OwnS w0 55 3 s1 0 c1 []) (hcx : Cs w0 b2 o2 (enL x sx cx)) :
  CT Tryz.prog 46 [.pointer (some ⟨b, 0, none⟩)] w0 Z (fun _ w => ∃ s c s3 c3, Blk w b (elL u0 u1 rm s 1 c s3 0 c3 u5) 90 ∧ OwnS w 55 3 s 1 c (enL x sx cx) ∧ ∀ k, ob s k → ob s1 k ∨ w0.heap.size ≤ k) := by
 have hlb := hB.lt
 subst hs2
 have F0 := Fr.refl Z w0
 have zo1 : ∀ k, ob s1 k → Z k ∨ w0.heap.size ≤ k := fun k h => .inl (hZo1 k h)
 refine ct_body Tryz.func46 rfl Tryz.ntmps46 (Nat.le_of_ble_eq_true rfl) ?_
 refine wk_seq ?_
 refine wk_mix 19 (fun _ => .none) (by kernel_rfl) (by kernel_rfl) (fun kS G hk => by cases hk) (fun kS s y G hk => by cases hk) ?_
 simp only [List.take_succ_cons, List.take_zero, List.take_nil, List.drop_succ_cons, List.drop_zero, List.drop_nil]
 refine mx_calm rfl (want rfl) (fun u1 eu1 fu1 => mv_pointer rfl) ?_
 refine mx_calm rfl (want rfl) (fun u2 eu2 fu2 => rn_nilCheck rfl) ?_
 refine mx_calm rfl (want rfl) (fun u3 eu3 fu3 => rn_fieldAddr fa_90_1 rfl) ?_
 refine mx_calm rfl (want rfl) (fun u4 eu4 fu4 => rn_fieldAddr fa_42_2 rfl) ?_
 refine mx_calm rfl (want rfl) (fun u5 eu5 fu5 => rn_load1Blk ag_39 rfl (hB.ext ((ext_drawn _).trans' eu5)) rfl) ?_
 refine mx_calm rfl (want rfl) (fun u6 eu6 fu6 => rn_len Tryz.underlying39 rfl) ?_
 refine mx_calm rfl (want rfl) (fun u7 eu7 fu7 => rn_gtr rfl rfl) ?_
 refine mx_dec_t ((by decide)) ?_
 refine mx_calm rfl (want rfl) (fun u8 eu8 fu8 => mv_bool rfl) ?_
 refine mx_calm rfl (want_if (j := 7) (d := 9) (x := true) (y := true) rfl rfl (by decide) rfl) (fun u9 eu9 fu9 => mv_pointer rfl) ?_
 refine mx_calm rfl (want_if (j := 7) (d := 9) (x := true) (y := true) rfl rfl (by decide) rfl) (fun u10 eu10 fu10 => rn_nilCheck rfl) ?_
 refine mx_calm rfl (want_if (j := 7) (d := 9) (x := true) (y := true) rfl rfl (by decide) rfl) (fun u11 eu11 fu11 => rn_fieldAddr fa_90_1 rfl) ?_
 refine mx_calm rfl (want_if (j := 7) (d := 9) (x := true) (y := true) rfl rfl (by decide) rfl) (fun u12 eu12 fu12 => rn_fieldAddr fa_42_1 rfl) ?_
 refine mx_calm rfl (want_if (j := 7) (d := 9) (x := true) (y := true) rfl rfl (by decide) rfl) (fun u13 eu13 fu13 => rn_load1Blk ag_39 rfl (hB.ext ((ext_drawn _).trans' eu13)) rfl) ?_
 refine mx_calm rfl (want_if (j := 7) (d := 9) (x := true) (y := true) rfl rfl (by decide) rfl) (fun u14 eu14 fu14 => rn_len Tryz.underlying39 rfl) ?_
 refine mx_calm rfl (want_if (j := 7) (d := 9) (x := true) (y := true) rfl rfl (by decide) rfl) (fun u15 eu15 fu15 => mv_pointer rfl) ?_
 refine mx_calm rfl (want_if (j := 7) (d := 9) (x := true) (y := true) rfl rfl (by decide) rfl) (fun u16 eu16 fu16 => rn_nilCheck rfl) ?_
 refine mx_calm rfl (want_if (j := 7) (d := 9) (x := true) (y := true) rfl rfl (by decide) rfl) (fun u17 eu17 fu17 => rn_fieldAddr fa_90_1 rfl) ?_
 refine mx_calm rfl (want_if (j := 7) (d := 9) (x := true) (y := true) rfl rfl (by decide) rfl) (fun u18 eu18 fu18 => rn_fieldAddr fa_42_0 rfl) ?_
 refine mx_calm rfl (want_if (j := 7) (d := 9) (x := true) (y := true) rfl rfl (by decide) rfl) (fun u19 eu19 fu19 => rn_load1Blk ag_3 rfl (hB.ext ((ext_drawn _).trans' eu19)) rfl) ?_
 refine mx_nil (fun w1 E1' H1 HS => ?_)
 have E1 := (ext_drawn _).trans' E1'
 have F1 := F0.ext E1
 have hz1 := E1.size
 refine lx_value (want_if (j := 7) (d := 9) (x := true) (y := true) rfl rfl (by decide) rfl) (rn_lss rfl rfl) ?_
 refine lx_dec_t ((by omega)) ?_
 refine lx_value (want rfl) (pick_t rfl rfl) ?_
 refine lx_nil ?_
 refine wk_cond_t rfl ?_
 have hOw1 := (hO.ext E1)
 refine wk_mixW 26 (fun j => match j with | 15 => (fun kq => ob s1 kq) | 25 => (fun kq => kq = b) | _ => no) (fun j (w w' : World) => match j with | _ => True) (fun i => match i with | 2 => no | 3 => no | 4 => no | 5 => no | 6 => no | 7 => no | 8 => no | 9 => no | 10 => no | 11 => no | 12 => no | 13 => no | 14 => no | 15 => no | 16 => (fun kq => ob s1 kq) | 17 => (fun kq => ob s1 kq) | 18 => (fun kq => ob s1 kq) | 19 => (fun kq => ob s1 kq) | 20 => (fun kq => ob s1 kq) | 22 => (fun kq => ob s1 kq) | 23 => (fun kq => ob s1 kq) | 24 => (fun kq => ob s1 kq) | 25 => (fun kq => ob s1 kq) | _ => (fun kq => ob s1 kq ∨ kq = b)) (fun kq => ob s1 kq ∨ kq = b) (fun kS => match kS with | 14 => .any 37 (fun I v w => ∃ b, v = .slice (some ⟨b, 0, none⟩) 1 1 ∧ w1.heap.size ≤ b ∧ Blk w b (enL x sx cx) 55) | 15 => .any 38 (fun I v w => ∃ s c, v = .slice s (0 + 1) c ∧ OwnS w 55 3 s (0 + 1) c (([] : List Value) ++ (enL x sx cx)) ∧ ∀ k, ob s k → (ob s1 k ∨ w1.heap.size ≤ k)) | 25 => .any 1000000 (fun I v w => ∃ s c, Blk w b (elL u0 u1 rm s (0 + 1) c (some (⟨b2, o2, none⟩ : Addr)) 1 c2 u5) 90 ∧ OwnS w 55 3 s (0 + 1) c ([] ++ enL x sx cx) ∧ (∀ k, ob s k → k ≠ b) ∧ ∀ k, ob s k → ob s1 k ∨ w0.heap.size ≤ k) | _ => .none) (by kernel_rfl) (by kernel_rfl) ⟨by intro i e G o hk ho; (try dsimp only at hk); split at hk <;> first | (cases hk; done) | (injection hk with hk1 hk2; subst hk1; first | exact .inl ((congrArg (fun q => Option.bind q Oper.dst) ho).symm.trans (by rfl)) | (refine .inr fun j oj hoj => ?_; obtain ⟨q1, q2⟩ := ghost_ok (by kernel_rfl) j oj hoj; exact ⟨q1, q2, fun G' hj h => by (try dsimp only at h); split at h <;> first | (cases h; done) | (exact absurd rfl hj) | (injection h with h1 _; first | (cases h1; done) | (exact absurd h1 (by decide)))⟩))⟩ (by intro i j hij hw k hk; (try dsimp only at hk); split at hk <;> (try exact hk.elim) <;> (try dsimp only) <;> split <;> first | exact hk | exact .inl hk | exact .inr hk | exact absurd rfl hij | exact absurd (hw.symm.trans (by kernel_rfl)) Bool.false_ne_true) (by intro j k hk; (try dsimp only at hk); split at hk <;> first | exact hk.elim | exact hk | exact .inl hk | exact .inr hk) (by intro kS e G hk j hkj hw I v w w' hR hX hG; (try dsimp only at hk); split at hk <;> first | (cases hk; done) | (injection hk with hk1 hk2; subst hk1; subst hk2; (try dsimp only at hR hX hG); split at hR <;> first | exact absurd rfl hkj | (obtain ⟨b, h1, h2, h3⟩ := hG; exact ⟨b, h1, h2, h3.fr hR (by intro hs; first | exact hs.elim | (have hs : b = _ := hs; omega) | (have := hOw1.lt hs; omega))⟩) | (obtain ⟨s, c, h1, h2, h3⟩ := hG; exact ⟨s, c, h1, h2.fr hR (by intro k hk hs; first | exact hs.elim | (have hs : k = _ := hs; exact (h3 k hk).elim (fun h => hnb k h hs) (fun h => by omega))), h3⟩) | (obtain ⟨s, c, h1, h2, h3, h4⟩ := hG; exact ⟨s, c, h1.ext hR, h2.ext hR, h3, h4⟩) | exact absurd (hw.symm.trans (by kernel_rfl)) Bool.false_ne_true)) ?_
 simp only [List.take_succ_cons, List.take_zero, List.take_nil, List.drop_succ_cons, List.drop_zero, List.drop_nil]
 refine mw_calm rfl (want rfl) (fun u20 eu20 fu20 => mv_pointer rfl) ?_
 refine mw_calm rfl (want rfl) (fun u21 eu21 fu21 => mv_pointer rfl) ?_
 refine mw_calm rfl (want rfl) (fun u22 eu22 fu22 => mv_pointer rfl) ?_
 refine mw_calm rfl (want rfl) (fun u23 eu23 fu23 => rn_nilCheck rfl) ?_
 refine mw_calm rfl (want rfl) (fun u24 eu24 fu24 => rn_fieldAddr fa_90_1 rfl) ?_
 refine mw_calm rfl (want rfl) (fun u25 eu25 fu25 => rn_fieldAddr fa_42_1 rfl) ?_
 refine mw_calm rfl (want rfl) (fun u26 eu26 fu26 => rn_load1Blk ag_39 rfl ((hB.ext E1).ext ((ext_drawn _).trans' (show Fr no _ _ from eu26))) rfl) ?_
 refine mw_calm rfl (want rfl) (fun u27 eu27 fu27 => mv_pointer rfl) ?_
 refine mw_calm rfl (want rfl) (fun u28 eu28 fu28 => rn_nilCheck rfl) ?_
 refine mw_calm rfl (want rfl) (fun u29 eu29 fu29 => rn_fieldAddr fa_90_1 rfl) ?_
 refine mw_calm rfl (want rfl) (fun u30 eu30 fu30 => rn_fieldAddr fa_42_2 rfl) ?_
 refine mw_calm rfl (want rfl) (fun u31 eu31 fu31 => rn_load1Blk ag_39 rfl ((hB.ext E1).ext ((ext_drawn _).trans' (show Fr no _ _ from eu31))) rfl) ?_
 refine mw_calm rfl (want rfl) (fun u32 eu32 fu32 => rn_index 0 Tryz.underlying39 sz_55 rfl rfl rfl (by decide)) ?_
 refine mw_calm rfl (want rfl) (fun u33 eu33 fu33 => rn_loadN ag_55 sz_55 rfl rfl (hcx.fr (F1.ext ((ext_drawn _).trans' (show Fr no _ _ from eu33))) hZ2)) ?_
 refine mw_any rfl rfl (want rfl) (fun u34 eu34 fu34 => (do_newS2 (rn_bslice (xs := [.tmp 36]) Tryz.underlying39 sz_55 ze_55 rfl (argsC (t_agg rfl) args0) (CL.cons rfl rfl CL.nil) rfl (Nat.le_of_ble_eq_true rfl)) (show _ ≤ _ from (((ext_drawn _).trans' (show Fr no _ _ from eu34))).size)).mono (fun v w' h => ⟨⟨h.1, trivial⟩, by obtain ⟨b, h2, h3, _, h4⟩ := h.2; exact ⟨b, h2, h3, h4⟩⟩)) (fun I37 v37 => ?_)
 refine mw_any rfl rfl (want rfl) (fun u35 eu35 fu35 => by obtain ⟨b37, rfl, hb37, hB37⟩ := fu35 37 _ rfl (show (37 : Nat) ∈ _ from by decide); exact do_append 40 Tryz.underlying39 ti_55 (by decide) rfl (by decide) rfl rfl ((hO.ext E1).ext ((ext_drawn _).trans' (show Fr no _ _ from eu35))) (Src.blk hB37 rfl rfl) (by omega) (fun sA cA wA AP => ⟨⟨AP.fr, trivial⟩, ⟨sA, cA, rfl, AP.own, fun k hk => (AP.blk k hk).elim .inl (fun h => .inr (Nat.le_trans (((ext_drawn _).trans' (show Fr no _ _ from eu35))).size h))⟩⟩)) (fun I38 v38 => ?_)
 refine mw_calm rfl (want rfl) (fun u36 eu36 fu36 => mv_pointer rfl) ?_
 refine mw_calm rfl (want rfl) (fun u37 eu37 fu37 => rn_nilCheck rfl) ?_
 refine mw_calm rfl (want rfl) (fun u38 eu38 fu38 => rn_fieldAddr fa_90_1 rfl) ?_
 refine mw_calm rfl (want rfl) (fun u39 eu39 fu39 => rn_fieldAddr fa_42_2 rfl) ?_
 refine mw_calm rfl (want rfl) (fun u40 eu40 fu40 => rn_load1Blk ag_39 rfl ((hB.ext E1).fr (show Fr (fun kq => ob s1 kq) _ _ from mG eu40) (fun h => (fun h => hnb _ h rfl) h)) rfl) ?_
 refine mw_calm rfl (want rfl) (fun u41 eu41 fu41 => rn_sliceFrom 1 Tryz.underlying39 sz_55 rfl rfl rfl (Nat.le_refl _)) ?_
 refine mw_calm rfl (want rfl) (fun u42 eu42 fu42 => rn_nilCheck rfl) ?_
 refine mw_calm rfl (want rfl) (fun u43 eu43 fu43 => rn_fieldAddr fa_90_1 rfl) ?_
 refine mw_calm rfl (want rfl) (fun u44 eu44 fu44 => rn_fieldAddr fa_42_1 rfl) ?_
 refine mw_eff (e := 1000000) rfl (want rfl) (fun u45 eu45 fu45 => by obtain ⟨sA, cA, rfl, hOA, hIA⟩ := fu45 38 _ rfl (show (38 : Nat) ∈ _ from by decide); exact (do_setC (o := 3) (m := 1) sz_39 rfl rfl rfl rfl rfl ((hB.ext E1).fr (show Fr (fun kq => ob s1 kq) _ _ from mG eu45) (fun h => (fun h => hnb _ h rfl) h)) (Nat.le_of_ble_eq_true rfl)).mono (fun v w' h => ⟨⟨h.1, trivial⟩, sA, cA, h.2, hOA.fr h.1 (fun k hk e => (hIA k hk).elim (fun g => hnb k g e) (fun g => by have e : k = b := e; omega)), fun k hk => (hIA k hk).elim (hnb k) (fun g => by omega), fun k hk => (hIA k hk).elim .inl (fun g => .inr (by omega))⟩)) (fun I1000000 v1000000 => ?_)
 refine mw_nil (fun w2 E2' H2 => ?_)
 have E2 := mG E2'
 have F2 := F1.new' E2 (fun kq => (fun h => h.elim (zo1 _) (fun h => (fun h => by rw [h]; exact (.inl hZb50)) h)))
 have hz2 := E2.size
 obtain ⟨sq1, cq1, rfl, hO1, hI1⟩ := H2 38 _ rfl
 have ge1 : ∀ k, ob sq1 k → Z k ∨ w0.heap.size ≤ k := fun k hk => (hI1 k hk).elim (zo1 k) (fun h => .inr (by omega))
 have ne1_50 : ∀ k, ob sq1 k → k ≠ b := fun k hk => (hI1 k hk).elim (hnb k) (fun h => by have := ((hB.ext E1)).lt; omega)
 have HG25 := H2 1000000 _ rfl
 obtain ⟨sR, cR, hBR, hOR, hnR, hgR⟩ := HG25
 refine lx_value (want rfl) (rn_nilCheck rfl) ?_
 refine lx_value (want rfl) (rn_fieldAddr fa_90_1 rfl) ?_
 refine lx_value (want rfl) (rn_fieldAddr fa_42_2 rfl) ?_
 refine lx_set (want rfl) sz_39 rfl (t_slice rfl) rfl rfl rfl hBR (Nat.le_of_ble_eq_true rfl) ?_
 intro w3 Es1 Bs1
 have F3 := F2.new' Es1 (fun k h => by have h : k = b := h; rw [h]; exact (.inl hZb50))
 have hzs1 := Es1.size
 refine lx_nil ?_
 (try simp only [thenK, blockK, if_true])
 refine retN ?_
 refine ret0 Tryz.results46 F3 ?_
 exact ⟨_, _, _, _, Bs1, hOR.fr (Fr.trans (Fr.refl (fun k => k = b) w2) Es1 (fun k _ h => h)) (fun k hk h => hnR k hk h), hgR⟩

theorem adda_ct (Z : Nat → Prop) (b : Nat) (u0 u1 u5 : Value) (rm n1 n2 : Nat) (s1 : Option Addr) (c1 : Nat) (s2 : Option Addr) (c2 : Nat) (us : List Value) (x : Ent) (sx : Option Addr) (cx : Nat) (hZb50 : Z b) (hZo1 : ∀ k, ob s1 k → Z k) (hnb : ∀ k, ob s1 k → k ≠ b) (hlt : n1 < rm) (hn1 : n1 ≤ 1000) (hn2 : n2 ≤ 1000) (w0 : World) (hB : Blk w0 b (elL u0 u1 rm s1 n1 c1 s2 n2 c2 u5) 90) (hO : OwnS w0 55 3 s1 n1 c1 us) :
  CT Tryz.prog 42 [.pointer (some ⟨b, 0, none⟩), .agg #[.int .i64 x.ctx, .int .i64 x.at_, .slice sx x.ports.length cx]] w0 Z (fun _ w => ∃ s c, Blk w b (elL u0 u1 rm s (n1 + 1) c s2 n2 c2 u5) 90 ∧ OwnS w 55 3 s (n1 + 1) c (us ++ enL x sx cx) ∧ ∀ k, ob s k → Z k ∨ w0.heap.size ≤ k) := by
 have hlb := hB.lt
 have F0 := Fr.refl Z w0
 have zo1 : ∀ k, ob s1 k → Z k ∨ w0.heap.size ≤ k := fun k h => .inl (hZo1 k h)
 refine ct_body Tryz.func42 rfl Tryz.ntmps42 (Nat.le_of_ble_eq_true rfl) ?_
 refine wk_seq ?_
 refine wk_region ?_
 refine lx_new (want rfl) (rn_box (t_agg rfl)) ?_
 intro b21 w1 hb21 Eb21 B21 hlb21
 have F1 := F0.ext Eb21
 have hzb21 := Eb21.size
 have nb1 : ∀ k, ob s1 k → k ≠ b21 := fun k hk => by have := (hO).lt hk; omega
 refine lx_nil ?_
 refine wk_seq ?_
 refine wk_region ?_
 refine lx_value (want rfl) (mv_pointer rfl) ?_
 refine lx_value (want rfl) (rn_nilCheck rfl) ?_
 refine lx_value (want rfl) (rn_fieldAddr fa_90_1 rfl) ?_
 refine lx_value (want rfl) (rn_fieldAddr fa_42_2 rfl) ?_
 refine lx_value (want rfl) (as_pointer rfl) ?_
 refine lx_nil ?_
 refine wk_seq ?_
 refine wk_seq ?_
 refine wk_mix 11 (fun _ => .none) (by kernel_rfl) (by kernel_rfl) (fun kS G hk => by cases hk) (fun kS s y G hk => by cases hk) ?_
 simp only [List.take_succ_cons, List.take_zero, List.take_nil, List.drop_succ_cons, List.drop_zero, List.drop_nil]
 refine mx_calm rfl (want rfl) (fun u1 eu1 fu1 => mv_pointer rfl) ?_
 refine mx_calm rfl (want rfl) (fun u2 eu2 fu2 => rn_nilCheck rfl) ?_
 refine mx_calm rfl (want rfl) (fun u3 eu3 fu3 => rn_fieldAddr fa_90_1 rfl) ?_
 refine mx_calm rfl (want rfl) (fun u4 eu4 fu4 => rn_fieldAddr fa_42_1 rfl) ?_
 refine mx_calm rfl (want rfl) (fun u5 eu5 fu5 => rn_load1Blk ag_39 rfl ((hB.ext Eb21).ext ((ext_drawn _).trans' eu5)) rfl) ?_
 refine mx_calm rfl (want rfl) (fun u6 eu6 fu6 => rn_len Tryz.underlying39 rfl) ?_
 refine mx_calm rfl (want rfl) (fun u7 eu7 fu7 => mv_pointer rfl) ?_
 refine mx_calm rfl (want rfl) (fun u8 eu8 fu8 => rn_nilCheck rfl) ?_
 refine mx_calm rfl (want rfl) (fun u9 eu9 fu9 => rn_fieldAddr fa_90_1 rfl) ?_
 refine mx_calm rfl (want rfl) (fun u10 eu10 fu10 => rn_fieldAddr fa_42_0 rfl) ?_
 refine mx_calm rfl (want rfl) (fun u11 eu11 fu11 => rn_load1Blk ag_3 rfl ((hB.ext Eb21).ext ((ext_drawn _).trans' eu11)) rfl) ?_
 refine mx_nil (fun w2 E1' H1 HS => ?_)
 have E1 := (ext_drawn _).trans' E1'
 have F2 := F1.ext E1
 have hz1 := E1.size
 refine lx_value (want rfl) (rn_lss rfl rfl) ?_
 refine lx_dec_t ((by omega)) ?_
 refine lx_nil ?_
 refine wk_cond_t rfl ?_
 refine wk_region ?_
 refine lx_value (want rfl) (mv_pointer rfl) ?_
 refine lx_value (want rfl) (rn_nilCheck rfl) ?_
 refine lx_value (want rfl) (rn_fieldAddr fa_90_1 rfl) ?_
 refine lx_value (want rfl) (rn_fieldAddr fa_42_1 rfl) ?_
 refine lx_value (want rfl) (as_pointer rfl) ?_
 refine lx_nil ?_
 have hOw := ((hO.ext Eb21).ext E1)
 have hSl : ∀ k, (ob s1) k → k < w2.heap.size := fun k h => (((hO.ext Eb21).ext E1)).lt h
 refine wk_mixA 7 6 (ob s1) (fun kS => match kS with | 5 => .any (fun I v w => ∃ b, v = .slice (some ⟨b, 0, none⟩) 1 1 ∧ w2.heap.size ≤ b ∧ (I.1 ≤ b ∧ b < I.2) ∧ Blk w b (enL x sx cx) 55) | 6 => .any (fun I v w => ∃ s c, v = .slice s (n1 + 1) c ∧ OwnS w 55 3 s (n1 + 1) c (us ++ (enL x sx cx)) ∧ ∀ k, ob s k → (ob s1 k ∨ w2.heap.size ≤ k)) | _ => .none) (by kernel_rfl) (by kernel_rfl) (by intro kS G hk; (try dsimp only at hk); (split at hk) <;> first | (cases hk; done) | (injection hk with hk; subst hk; exact ⟨by intro j hkj I v w w' hR hG; first | exact hG | (obtain ⟨b, h1, h2, hI, h3⟩ := hG; exact ⟨b, h1, h2, hI, h3.fr (mS hR) (fun hs => by have := hOw.lt hs; omega)⟩) | (obtain ⟨s, c, h1, h2, h3⟩ := hG; exact ⟨s, c, h1, h2.ext (mT hkj hR), h3⟩), fun ⟨_, _, _, _, hs⟩ => by (try dsimp only at hs); split at hs <;> cases hs⟩)) (by intro kS s y G hk; (try dsimp only at hk); split at hk <;> cases hk) ?_
 simp only [List.take_succ_cons, List.take_zero, List.take_nil, List.drop_succ_cons, List.drop_zero, List.drop_nil]
 refine mx_calm rfl (want rfl) (fun u12 eu12 fu12 => mv_pointer rfl) ?_
 refine mx_calm rfl (want rfl) (fun u13 eu13 fu13 => mv_pointer rfl) ?_
 refine mx_calm rfl (want rfl) (fun u14 eu14 fu14 => rn_nilCheck rfl) ?_
 refine mx_calm rfl (want rfl) (fun u15 eu15 fu15 => rn_load1Blk ag_39 rfl (((hB.ext Eb21).ext E1).fr (mD (by decide) eu15) (fun h => hnb _ h rfl)) rfl) ?_
 refine mx_calm rfl (want rfl) (fun u16 eu16 fu16 => rn_loadBlk ag_55 sz_55 rfl ((B21.ext E1).fr (mD (by decide) eu16) (fun h => nb1 _ h rfl)) rfl rfl) ?_
 refine mx_any rfl rfl (want rfl) (fun u17 eu17 fu17 => (do_newS2 (rn_bslice (xs := [.tmp 29]) Tryz.underlying39 sz_55 ze_55 rfl (argsC (t_agg rfl) args0) (CL.cons rfl rfl CL.nil) rfl (Nat.le_of_ble_eq_true rfl)) (show _ ≤ _ from ((mD (by decide) eu17)).size)).mono (fun v w' h => ⟨(mE (by decide) h.1), h.2⟩)) (fun I30 v30 => ?_)
 refine mx_any rfl rfl (want rfl) (fun u18 eu18 fu18 => by obtain ⟨bS, rfl, hbS, _, hBS⟩ := fu18 30 _ rfl (show (30 : Nat) ∈ _ from by decide); exact do_append 40 Tryz.underlying39 ti_55 (by decide) rfl (by decide) rfl rfl (((hO.ext Eb21).ext E1).ext (mC eu18)) (Src.blk hBS rfl rfl) (by omega) (fun sA cA wA AP => ⟨(mF AP.fr), ⟨sA, cA, rfl, AP.own, fun k hk => (AP.blk k hk).elim .inl (fun h => .inr (Nat.le_trans (mC eu18).size h))⟩⟩)) (fun I31 v31 => ?_)
 refine mx_nil (fun w3 E2' H2 HS => ?_)
 have E2 := mG E2'
 have hI31 := (HS.1 31 _ rfl).2
 have hI30 := (HS.1 30 _ rfl).2
 have hX31_30 := HS.2 31 _ 30 _ rfl rfl (show (31 : Nat) ≠ 30 from by decide)
 simp only at hI31
 simp only at hI30
 simp only at hX31_30
 have g31 := H2 31 _ rfl
 obtain ⟨sq1, cq1, rfl, hO1, hI1⟩ := g31
 have g30 := H2 30 _ rfl
 have AP1 : Apd w2 _ _ s1 _ _ sq1 cq1 w3 := ⟨hO1, E2, hI1⟩
 have EA1 := AP1.fr
 have ow1 := AP1.own
 have ge1 : ∀ k, ob sq1 k → Z k ∨ w0.heap.size ≤ k := fun k hk => (AP1.blk k hk).elim (zo1 k) (fun h => .inr (Nat.le_trans F2.size h))
 have ne1_50 : ∀ k, ob sq1 k → k ≠ b := fun k hk => (AP1.blk k hk).elim (hnb k) (fun h => by have := (((hB.ext Eb21).ext E1)).lt; omega)
 have ne1_21 : ∀ k, ob sq1 k → k ≠ b21 := fun k hk => (AP1.blk k hk).elim (nb1 k) (fun h => by have := ((B21.ext E1)).lt; omega)
 have F3 := F2.new' EA1 zo1
 have hzA1 := EA1.size
 have BA1_50 := ((hB.ext Eb21).ext E1).fr EA1 (fun h => hnb _ h rfl)
 have BA1_21 := (B21.ext E1).fr EA1 (fun h => nb1 _ h rfl)
 refine lx_value (want rfl) (rn_nilCheck rfl) ?_
 refine lx_set (want rfl) sz_39 rfl (t_slice rfl) rfl rfl rfl BA1_50 (Nat.le_of_ble_eq_true rfl) ?_
 intro w4 Es1 Bs1
 have F4 := F3.new' Es1 (fun k h => by have h : k = b := h; rw [h]; exact (.inl hZb50))
 have hzs1 := Es1.size
 refine lx_nil ?_
 (try simp only [thenK, blockK, if_true])
 refine retN ?_
 refine ret0 Tryz.results42 F4 ?_
 exact ⟨_, _, Bs1, (ow1.ne Es1 (fun h => ne1_50 _ h rfl)), ge1⟩

theorem addb_ct (Z : Nat → Prop) (b : Nat) (u0 u1 u5 : Value) (rm n1 n2 : Nat) (s1 : Option Addr) (c1 : Nat) (s2 : Option Addr) (c2 : Nat) (us : List Value) (x : Ent) (sx : Option Addr) (cx : Nat) (hZb50 : Z b) (hZo2 : ∀ k, ob s2 k → Z k) (hnb : ∀ k, ob s2 k → k ≠ b) (hlt : rm ≤ n1) (hn1 : n1 ≤ 1000) (hn2 : n2 ≤ 1000) (w0 : World) (hB : Blk w0 b (elL u0 u1 rm s1 n1 c1 s2 n2 c2 u5) 90) (hO : OwnS w0 55 3 s2 n2 c2 us) :
  CT Tryz.prog 42 [.pointer (some ⟨b, 0, none⟩), .agg #[.int .i64 x.ctx, .int .i64 x.at_, .slice sx x.ports.length cx]] w0 Z (fun _ w => ∃ s c, Blk w b (elL u0 u1 rm s1 n1 c1 s (n2 + 1) c u5) 90 ∧ OwnS w 55 3 s (n2 + 1) c (us ++ enL x sx cx) ∧ ∀ k, ob s k → Z k ∨ w0.heap.size ≤ k) := by
 have hlb := hB.lt
 have F0 := Fr.refl Z w0
 have zo2 : ∀ k, ob s2 k → Z k ∨ w0.heap.size ≤ k := fun k h => .inl (hZo2 k h)
 refine ct_body Tryz.func42 rfl Tryz.ntmps42 (Nat.le_of_ble_eq_true rfl) ?_
 refine wk_seq ?_
 refine wk_region ?_
 refine lx_new (want rfl) (rn_box (t_agg rfl)) ?_
 intro b21 w1 hb21 Eb21 B21 hlb21
 have F1 := F0.ext Eb21
 have hzb21 := Eb21.size
 have nb1 : ∀ k, ob s2 k → k ≠ b21 := fun k hk => by have := (hO).lt hk; omega
 refine lx_nil ?_
 refine wk_seq ?_
 refine wk_region ?_
 refine lx_value (want rfl) (mv_pointer rfl) ?_
 refine lx_value (want rfl) (rn_nilCheck rfl) ?_
 refine lx_value (want rfl) (rn_fieldAddr fa_90_1 rfl) ?_
 refine lx_value (want rfl) (rn_fieldAddr fa_42_2 rfl) ?_
 refine lx_value (want rfl) (as_pointer rfl) ?_
 refine lx_nil ?_
 refine wk_seq ?_
 refine wk_seq ?_
 refine wk_mix 11 (fun _ => .none) (by kernel_rfl) (by kernel_rfl) (fun kS G hk => by cases hk) (fun kS s y G hk => by cases hk) ?_
 simp only [List.take_succ_cons, List.take_zero, List.take_nil, List.drop_succ_cons, List.drop_zero, List.drop_nil]
 refine mx_calm rfl (want rfl) (fun u1 eu1 fu1 => mv_pointer rfl) ?_
 refine mx_calm rfl (want rfl) (fun u2 eu2 fu2 => rn_nilCheck rfl) ?_
 refine mx_calm rfl (want rfl) (fun u3 eu3 fu3 => rn_fieldAddr fa_90_1 rfl) ?_
 refine mx_calm rfl (want rfl) (fun u4 eu4 fu4 => rn_fieldAddr fa_42_1 rfl) ?_
 refine mx_calm rfl (want rfl) (fun u5 eu5 fu5 => rn_load1Blk ag_39 rfl ((hB.ext Eb21).ext ((ext_drawn _).trans' eu5)) rfl) ?_
 refine mx_calm rfl (want rfl) (fun u6 eu6 fu6 => rn_len Tryz.underlying39 rfl) ?_
 refine mx_calm rfl (want rfl) (fun u7 eu7 fu7 => mv_pointer rfl) ?_
 refine mx_calm rfl (want rfl) (fun u8 eu8 fu8 => rn_nilCheck rfl) ?_
 refine mx_calm rfl (want rfl) (fun u9 eu9 fu9 => rn_fieldAddr fa_90_1 rfl) ?_
 refine mx_calm rfl (want rfl) (fun u10 eu10 fu10 => rn_fieldAddr fa_42_0 rfl) ?_
 refine mx_calm rfl (want rfl) (fun u11 eu11 fu11 => rn_load1Blk ag_3 rfl ((hB.ext Eb21).ext ((ext_drawn _).trans' eu11)) rfl) ?_
 refine mx_nil (fun w2 E1' H1 HS => ?_)
 have E1 := (ext_drawn _).trans' E1'
 have F2 := F1.ext E1
 have hz1 := E1.size
 refine lx_value (want rfl) (rn_lss rfl rfl) ?_
 refine lx_dec_f ((by omega)) ?_
 refine lx_nil ?_
 refine wk_cond_f rfl ?_
 refine wk_skip ?_
 have hOw := ((hO.ext Eb21).ext E1)
 have hSl : ∀ k, (ob s2) k → k < w2.heap.size := fun k h => (((hO.ext Eb21).ext E1)).lt h
 refine wk_mixA 7 6 (ob s2) (fun kS => match kS with | 5 => .any (fun I v w => ∃ b, v = .slice (some ⟨b, 0, none⟩) 1 1 ∧ w2.heap.size ≤ b ∧ (I.1 ≤ b ∧ b < I.2) ∧ Blk w b (enL x sx cx) 55) | 6 => .any (fun I v w => ∃ s c, v = .slice s (n2 + 1) c ∧ OwnS w 55 3 s (n2 + 1) c (us ++ (enL x sx cx)) ∧ ∀ k, ob s k → (ob s2 k ∨ w2.heap.size ≤ k)) | _ => .none) (by kernel_rfl) (by kernel_rfl) (by intro kS G hk; (try dsimp only at hk); (split at hk) <;> first | (cases hk; done) | (injection hk with hk; subst hk; exact ⟨by intro j hkj I v w w' hR hG; first | exact hG | (obtain ⟨b, h1, h2, hI, h3⟩ := hG; exact ⟨b, h1, h2, hI, h3.fr (mS hR) (fun hs => by have := hOw.lt hs; omega)⟩) | (obtain ⟨s, c, h1, h2, h3⟩ := hG; exact ⟨s, c, h1, h2.ext (mT hkj hR), h3⟩), fun ⟨_, _, _, _, hs⟩ => by (try dsimp only at hs); split at hs <;> cases hs⟩)) (by intro kS s y G hk; (try dsimp only at hk); split at hk <;> cases hk) ?_
 simp only [List.take_succ_cons, List.take_zero, List.take_nil, List.drop_succ_cons, List.drop_zero, List.drop_nil]
 refine mx_calm rfl (want rfl) (fun u12 eu12 fu12 => mv_pointer rfl) ?_
 refine mx_calm rfl (want rfl) (fun u13 eu13 fu13 => mv_pointer rfl) ?_
 refine mx_calm rfl (want rfl) (fun u14 eu14 fu14 => rn_nilCheck rfl) ?_
 refine mx_calm rfl (want rfl) (fun u15 eu15 fu15 => rn_load1Blk ag_39 rfl (((hB.ext Eb21).ext E1).fr (mD (by decide) eu15) (fun h => hnb _ h rfl)) rfl) ?_
 refine mx_calm rfl (want rfl) (fun u16 eu16 fu16 => rn_loadBlk ag_55 sz_55 rfl ((B21.ext E1).fr (mD (by decide) eu16) (fun h => nb1 _ h rfl)) rfl rfl) ?_
 refine mx_any rfl rfl (want rfl) (fun u17 eu17 fu17 => (do_newS2 (rn_bslice (xs := [.tmp 29]) Tryz.underlying39 sz_55 ze_55 rfl (argsC (t_agg rfl) args0) (CL.cons rfl rfl CL.nil) rfl (Nat.le_of_ble_eq_true rfl)) (show _ ≤ _ from ((mD (by decide) eu17)).size)).mono (fun v w' h => ⟨(mE (by decide) h.1), h.2⟩)) (fun I30 v30 => ?_)
 refine mx_any rfl rfl (want rfl) (fun u18 eu18 fu18 => by obtain ⟨bS, rfl, hbS, _, hBS⟩ := fu18 30 _ rfl (show (30 : Nat) ∈ _ from by decide); exact do_append 40 Tryz.underlying39 ti_55 (by decide) rfl (by decide) rfl rfl (((hO.ext Eb21).ext E1).ext (mC eu18)) (Src.blk hBS rfl rfl) (by omega) (fun sA cA wA AP => ⟨(mF AP.fr), ⟨sA, cA, rfl, AP.own, fun k hk => (AP.blk k hk).elim .inl (fun h => .inr (Nat.le_trans (mC eu18).size h))⟩⟩)) (fun I31 v31 => ?_)
 refine mx_nil (fun w3 E2' H2 HS => ?_)
 have E2 := mG E2'
 have hI31 := (HS.1 31 _ rfl).2
 have hI30 := (HS.1 30 _ rfl).2
 have hX31_30 := HS.2 31 _ 30 _ rfl rfl (show (31 : Nat) ≠ 30 from by decide)
 simp only at hI31
 simp only at hI30
 simp only at hX31_30
 have g31 := H2 31 _ rfl
 obtain ⟨sq1, cq1, rfl, hO1, hI1⟩ := g31
 have g30 := H2 30 _ rfl
 have AP1 : Apd w2 _ _ s2 _ _ sq1 cq1 w3 := ⟨hO1, E2, hI1⟩
 have EA1 := AP1.fr
 have ow1 := AP1.own
 have ge1 : ∀ k, ob sq1 k → Z k ∨ w0.heap.size ≤ k := fun k hk => (AP1.blk k hk).elim (zo2 k) (fun h => .inr (Nat.le_trans F2.size h))
 have ne1_50 : ∀ k, ob sq1 k → k ≠ b := fun k hk => (AP1.blk k hk).elim (hnb k) (fun h => by have := (((hB.ext Eb21).ext E1)).lt; omega)
 have ne1_21 : ∀ k, ob sq1 k → k ≠ b21 := fun k hk => (AP1.blk k hk).elim (nb1 k) (fun h => by have := ((B21.ext E1)).lt; omega)
 have F3 := F2.new' EA1 zo2
 have hzA1 := EA1.size
 have BA1_50 := ((hB.ext Eb21).ext E1).fr EA1 (fun h => hnb _ h rfl)
 have BA1_21 := (B21.ext E1).fr EA1 (fun h => nb1 _ h rfl)
 refine lx_value (want rfl) (rn_nilCheck rfl) ?_
 refine lx_set (want rfl) sz_39 rfl (t_slice rfl) rfl rfl rfl BA1_50 (Nat.le_of_ble_eq_true rfl) ?_
 intro w4 Es1 Bs1
 have F4 := F3.new' Es1 (fun k h => by have h : k = b := h; rw [h]; exact (.inl hZb50))
 have hzs1 := Es1.size
 refine lx_nil ?_
 (try simp only [thenK, blockK, if_true])
 refine retN ?_
 refine ret0 Tryz.results42 F4 ?_
 exact ⟨_, _, Bs1, (ow1.ne Es1 (fun h => ne1_50 _ h rfl)), ge1⟩

theorem shapes_ct (w0 : World) :
  CT Tryz.prog 135 [] w0 no (fun v w => ∃ b, v = .map (some b) ∧ MapL w b kU shL ∧ w0.heap.size ≤ b) := by
 have F0 := Fr.refl no w0
 refine ct_body Tryz.func135 rfl Tryz.ntmps135 (Nat.le_of_ble_eq_true rfl) ?_
 refine wk_seq ?_
 refine wk_region ?_
 refine lx_value (want rfl) (as_map rfl) ?_
 refine lx_nil ?_
 refine wk_seq ?_
 refine wk_region ?_
 refine lx_makeMapL kU (want rfl) ?_
 intro b1 w1 hb1 Eb1 B1
 have F1 := F0.ext Eb1
 have hzb1 := Eb1.size
 have hlb1 := B1.lt
 refine lx_value (want rfl) (rn_build5 (t_string rfl) (t_int rfl) (t_int rfl) (t_bool rfl) (t_bool rfl) (fun w => bd_228_0_1_2_3_4 _ _ _ _ _ w)) ?_
 refine lx_insL (want rfl) mv_186.g rfl rfl (t_agg rfl) B1 rfl ?_
 intro w2 Em1 HMEm1
 have F2 := F1.set Em1 (by omega)
 have hzm1 := Em1.size
 refine lx_value (want rfl) (rn_build5 (t_string rfl) (t_int rfl) (t_int rfl) (t_bool rfl) (t_bool rfl) (fun w => bd_228_0_1_2_3_4 _ _ _ _ _ w)) ?_
 refine lx_insL (want rfl) mv_186.g rfl rfl (t_agg rfl) HMEm1 rfl ?_
 intro w3 Em2 HMEm2
 have F3 := F2.set Em2 (by omega)
 have hzm2 := Em2.size
 refine lx_value (want rfl) (rn_build5 (t_string rfl) (t_int rfl) (t_int rfl) (t_bool rfl) (t_bool rfl) (fun w => bd_228_0_1_2_3_4 _ _ _ _ _ w)) ?_
 refine lx_insL (want rfl) mv_186.g rfl rfl (t_agg rfl) HMEm2 rfl ?_
 intro w4 Em3 HMEm3
 have F4 := F3.set Em3 (by omega)
 have hzm3 := Em3.size
 refine lx_value (want rfl) (rn_build5 (t_string rfl) (t_int rfl) (t_int rfl) (t_bool rfl) (t_bool rfl) (fun w => bd_228_0_1_2_3_4 _ _ _ _ _ w)) ?_
 refine lx_insL (want rfl) mv_186.g rfl rfl (t_agg rfl) HMEm3 rfl ?_
 intro w5 Em4 HMEm4
 have F5 := F4.set Em4 (by omega)
 have hzm4 := Em4.size
 refine lx_value (want rfl) (rn_build5 (t_string rfl) (t_int rfl) (t_int rfl) (t_bool rfl) (t_bool rfl) (fun w => bd_228_0_1_2_3_4 _ _ _ _ _ w)) ?_
 refine lx_insL (want rfl) mv_186.g rfl rfl (t_agg rfl) HMEm4 rfl ?_
 intro w6 Em5 HMEm5
 have F6 := F5.set Em5 (by omega)
 have hzm5 := Em5.size
 refine lx_value (want rfl) (rn_build5 (t_string rfl) (t_int rfl) (t_int rfl) (t_bool rfl) (t_bool rfl) (fun w => bd_228_0_1_2_3_4 _ _ _ _ _ w)) ?_
 refine lx_insL (want rfl) mv_186.g rfl rfl (t_agg rfl) HMEm5 rfl ?_
 intro w7 Em6 HMEm6
 have F7 := F6.set Em6 (by omega)
 have hzm6 := Em6.size
 refine lx_value (want rfl) (rn_build5 (t_string rfl) (t_int rfl) (t_int rfl) (t_bool rfl) (t_bool rfl) (fun w => bd_228_0_1_2_3_4 _ _ _ _ _ w)) ?_
 refine lx_insL (want rfl) mv_186.g rfl rfl (t_agg rfl) HMEm6 rfl ?_
 intro w8 Em7 HMEm7
 have F8 := F7.set Em7 (by omega)
 have hzm7 := Em7.size
 refine lx_value (want rfl) (rn_build5 (t_string rfl) (t_int rfl) (t_int rfl) (t_bool rfl) (t_bool rfl) (fun w => bd_228_0_1_2_3_4 _ _ _ _ _ w)) ?_
 refine lx_insL (want rfl) mv_186.g rfl rfl (t_agg rfl) HMEm7 rfl ?_
 intro w9 Em8 HMEm8
 have F9 := F8.set Em8 (by omega)
 have hzm8 := Em8.size
 refine lx_value (want rfl) (rn_build5 (t_string rfl) (t_int rfl) (t_int rfl) (t_bool rfl) (t_bool rfl) (fun w => bd_228_0_1_2_3_4 _ _ _ _ _ w)) ?_
 refine lx_insL (want rfl) mv_186.g rfl rfl (t_agg rfl) HMEm8 rfl ?_
 intro w10 Em9 HMEm9
 have F10 := F9.set Em9 (by omega)
 have hzm9 := Em9.size
 refine lx_value (want rfl) (rn_build5 (t_string rfl) (t_int rfl) (t_int rfl) (t_bool rfl) (t_bool rfl) (fun w => bd_228_0_1_2_3_4 _ _ _ _ _ w)) ?_
 refine lx_insL (want rfl) mv_186.g rfl rfl (t_agg rfl) HMEm9 rfl ?_
 intro w11 Em10 HMEm10
 have F11 := F10.set Em10 (by omega)
 have hzm10 := Em10.size
 refine lx_value (want rfl) (rn_build5 (t_string rfl) (t_int rfl) (t_int rfl) (t_bool rfl) (t_bool rfl) (fun w => bd_228_0_1_2_3_4 _ _ _ _ _ w)) ?_
 refine lx_insL (want rfl) mv_186.g rfl rfl (t_agg rfl) HMEm10 rfl ?_
 intro w12 Em11 HMEm11
 have F12 := F11.set Em11 (by omega)
 have hzm11 := Em11.size
 refine lx_value (want rfl) (rn_build5 (t_string rfl) (t_int rfl) (t_int rfl) (t_bool rfl) (t_bool rfl) (fun w => bd_228_0_1_2_3_4 _ _ _ _ _ w)) ?_
 refine lx_insL (want rfl) mv_186.g rfl rfl (t_agg rfl) HMEm11 rfl ?_
 intro w13 Em12 HMEm12
 have F13 := F12.set Em12 (by omega)
 have hzm12 := Em12.size
 refine lx_value (want rfl) (rn_build5 (t_string rfl) (t_int rfl) (t_int rfl) (t_bool rfl) (t_bool rfl) (fun w => bd_228_0_1_2_3_4 _ _ _ _ _ w)) ?_
 refine lx_insL (want rfl) mv_186.g rfl rfl (t_agg rfl) HMEm12 rfl ?_
 intro w14 Em13 HMEm13
 have F14 := F13.set Em13 (by omega)
 have hzm13 := Em13.size
 refine lx_value (want rfl) (rn_build5 (t_string rfl) (t_int rfl) (t_int rfl) (t_bool rfl) (t_bool rfl) (fun w => bd_228_0_1_2_3_4 _ _ _ _ _ w)) ?_
 refine lx_insL (want rfl) mv_186.g rfl rfl (t_agg rfl) HMEm13 rfl ?_
 intro w15 Em14 HMEm14
 have F15 := F14.set Em14 (by omega)
 have hzm14 := Em14.size
 refine lx_value (want rfl) (rn_build5 (t_string rfl) (t_int rfl) (t_int rfl) (t_bool rfl) (t_bool rfl) (fun w => bd_228_0_1_2_3_4 _ _ _ _ _ w)) ?_
 refine lx_insL (want rfl) mv_186.g rfl rfl (t_agg rfl) HMEm14 rfl ?_
 intro w16 Em15 HMEm15
 have F16 := F15.set Em15 (by omega)
 have hzm15 := Em15.size
 refine lx_value (want rfl) (rn_build5 (t_string rfl) (t_int rfl) (t_int rfl) (t_bool rfl) (t_bool rfl) (fun w => bd_228_0_1_2_3_4 _ _ _ _ _ w)) ?_
 refine lx_insL (want rfl) mv_186.g rfl rfl (t_agg rfl) HMEm15 rfl ?_
 intro w17 Em16 HMEm16
 have F17 := F16.set Em16 (by omega)
 have hzm16 := Em16.size
 refine lx_value (want rfl) (mv_map rfl) ?_
 refine lx_value (want rfl) (as_map rfl) ?_
 refine lx_nil ?_
 refine wk_ret ?_
 refine retR1 Tryz.results135 (.tmp (t_map rfl)) F17 ?_
 exact ⟨_, rfl, HMEm16, by omega⟩

theorem segs1_ct (ln bq b : Nat) (l : List Sg) (F : Nat → Prop) (hll : l.length ≤ 1000) (K : List Sg → World → Prop) (Z : World → Prop) (w0 : World) (h0 : K l w0) (hbx : ∀ r w, K r w → Blk w bq [.pointer (some ⟨b, 0, none⟩)] 182 ∧ PrgO F w b l) (hfr : ∀ r w, K r w → Fr (fun k => ¬ F k) w0 w) (hZ : ∀ w, Z w → Fr (fun _ => True) w0 w) (hY : ∀ (g : Sg) r w1 w2 n ss cs si ci, g ∈ l ∧ GRd F w2 g ss si ci → K (g :: r) w1 → Ext w1 w2 → Yd Tryz.prog ln [.int .i64 (n : Nat), .agg #[.pointer (some ⟨b, 0, none⟩), .string g.nm, .int .i64 (g.ex : Nat), .slice ss g.st.length cs, .slice si g.ins.length ci]] w2 (fun c w3 => w2.heap.size ≤ w3.heap.size ∧ Nx (K r w3) (Z w3) c)) :
  CT Tryz.prog 137 [.func (.yield ln) #[] #[], .pointer (some ⟨bq, 0, none⟩)] w0 (fun _ => True) (fun _ w => (∃ w1, K [] w1 ∧ Ext w1 w) ∨ ∃ w1, Z w1 ∧ Ext w1 w) := by
 obtain ⟨B20, hp⟩ := hbx _ _ h0
 obtain ⟨sl, cl, ba, bs, hB, hA, hSh, hL, hFb, hFa, hFs⟩ := hp
 have F0 := Fr.refl (fun _ => True) w0
 refine ct_body Tryz.func137 rfl Tryz.ntmps137 (Nat.le_of_ble_eq_true rfl) ?_
 refine wk_seq ?_
 refine wk_region ?_
 refine lx_value (want rfl) (rn_load1Blk ag_182 rfl B20 rfl) ?_
 refine lx_value (want rfl) (rn_nilCheck rfl) ?_
 refine lx_value (want rfl) (rn_fieldAddr fa_188_0 rfl) ?_
 refine lx_value (want rfl) (rn_load1Blk ag_128 rfl hB rfl) ?_
 refine lx_value (want rfl) (rn_len Tryz.underlying128 rfl) ?_
 refine lx_value (want rfl) (mv_int rfl) ?_
 refine lx_nil ?_
 refine wk_block ?_
 refine wk_loopA [3, 4, 10, 11, 12, 13, 14, 15, 16, 17, 18, 19, 20, 21, 22] (fun j => (fun _ => True) j ∨ w0.heap.size ≤ j) (fun nM ρ w => ∃ (i : Nat), nM = l.length - i ∧ ρ 10 = .int .i64 i ∧ (∃ w1, K (l.drop i) w1 ∧ Ext w1 w) ∧ (i ≤ l.length)) _ ⟨0, rfl, rfl, ⟨w0, h0, (Fr.refl no w0)⟩, by omega⟩ ?_
 rintro n1 ρ1 w1 A1 EL1 ⟨i, rfl, hs1_10, hK, hi⟩
 have F1 := F0.wide EL1
 have hzL1 := EL1.size
 obtain ⟨wK, hK, EK⟩ := hK
 have BK := (hbx _ _ hK).1.ext EK
 have HF := (hfr _ _ hK).ext EK
 have hlK := BK.lt
 refine wk_seq ?_
 refine wk_region ?_
 refine lx_value (want rfl) (rn_lss hs1_10 (A1.at 9 rfl rfl)) ?_
 refine lx_dec (fun hlt => ?_) (fun hlt => ?_)
 ·
  obtain ⟨g, hg⟩ := getx hlt
  obtain ⟨by_, oy, hsy, hFy, ss, cs, si, ci, hcy, hst, hins, hroom⟩ := hL i g hg
  subst hsy
  have hKc := hK
  rw [drop_at hg] at hKc
  refine lx_nil ?_
  refine wk_seq ?_
  refine wk_cond_t rfl ?_
  refine wk_skip ?_
  refine wk_seq ?_
  refine wk_block ?_
  refine wk_seq ?_
  refine wk_region ?_
  refine lx_value (want rfl) (mv_int hs1_10) ?_
  refine lx_value (want rfl) (rn_index _ Tryz.underlying128 sz_181 (A1.at 8 rfl rfl) hs1_10 rfl (by omega)) ?_
  refine lx_value (want rfl) (rn_loadN ag_181 sz_181 rfl rfl (hcy.fr (HF.ext (Fr.refl no w1)) (fun m => m hFy))) ?_
  refine lx_new (want rfl) (rn_alloc ze_181) ?_
  intro b21 w2 hb21 Eb21 B21 hlb21
  have F2 := F1.ext Eb21
  have hzb21 := Eb21.size
  refine lx_value (want rfl) (as_int rfl) ?_
  refine lx_set (want rfl) sz_181 rfl (t_agg rfl) rfl rfl rfl B21 (Nat.le_of_ble_eq_true rfl) ?_
  intro w3 Es1 Bs1
  have F3 := F2.set Es1 (by omega)
  have hzs1 := Es1.size
  refine lx_nil ?_
  refine wk_seq ?_
  refine wk_region ?_
  refine lx_value (want rfl) (mv_func (A1.at 0 rfl rfl)) ?_
  refine lx_value (want rfl) (mv_int rfl) ?_
  refine lx_value (want rfl) (rn_load1Blk ag_182 (A1.at 1 rfl rfl) ((BK.ext Eb21).ne Es1 (by omega)) rfl) ?_
  refine lx_value (want rfl) (rn_loadBlk ag_181 sz_181 rfl Bs1 rfl rfl) ?_
  refine lx_value (want rfl) (rn_build2 (t_pointer rfl) (t_agg rfl) (fun w => bd_193_0_1 _ _ _ _ _ _ _ _ _ w)) ?_
  refine lx_yield (want rfl) rfl (argsC (t_int rfl) (argsC (t_agg rfl) args0)) (hY _ _ wK w3 _ ss cs si ci ⟨List.mem_of_getElem? hg, (GRd.mk hst hins hroom).fr (HF.trans (Fr.trans (Fr.ext (Fr.refl (fun k => k = b21) w1) Eb21) Es1 (fun k _ h => h)) (fun i hi h => by have h : i = b21 := h; exact absurd hi (by omega))) nn⟩ hKc (EK.trans' ((Fr.trans (Fr.ext (Fr.refl (fun k => k = b21) w1) Eb21) Es1 (fun k _ h => h)).mono (fun i hi h => by have h : i = b21 := h; exact absurd hi (by omega))))) ?_
  intro cY w4 ⟨hzY, HY⟩
  refine lx_split (fun h20 => ?_) (fun h20 => ?_)
  ·
   subst h20
   have HY : K _ _ := HY
   have FYK := hfr _ _ HY
   have FY := FYK.mono (fun _ _ _ => trivial : ∀ i, i < w0.heap.size → ¬ F i → (fun _ => True) i)
   refine lx_value (want rfl) (rn_not rfl) ?_
   refine lx_nil ?_
   refine wk_cond_f rfl ?_
   refine wk_skip ?_
   refine wk_region ?_
   refine lx_value (want rfl) (rn_add hs1_10 rfl (by omega)) ?_
   refine lx_value (want rfl) (mv_int rfl) ?_
   refine lx_nil ?_
   exact ⟨rfl, ((((((((((((((((A1.up rfl _).up rfl _).up rfl _).up rfl _).up rfl _).up rfl _).none _).up rfl _).up rfl _).up rfl _).up rfl _).up rfl _).up rfl _).up rfl _).up rfl _).up rfl _), Fr.between F0 FY (by omega), _, (by omega), i + 1, rfl, rfl, ⟨_, HY, Fr.refl no _⟩, by omega⟩
  ·
   subst h20
   have HY : Z _ := HY
   have FY := hZ _ HY
   refine lx_value (want rfl) (rn_not rfl) ?_
   refine lx_nil ?_
   refine wk_cond_t rfl ?_
   refine wk_ret ?_
   refine ret0 Tryz.results137 FY ?_
   exact .inr ⟨_, HY, Fr.refl no _⟩
 ·
  refine lx_nil ?_
  refine wk_seq ?_
  refine wk_cond_f rfl ?_
  refine wk_exit ?_
  (try simp only [thenK, blockK, if_true])
  refine retN ?_
  refine ret0 Tryz.results137 F1 ?_
  exact .inl ⟨wK, (by rw [drop_end hlt] at hK; exact hK), EK.trans' (Fr.refl no w1)⟩

theorem operations_ct (w0 : World) :
  CT Tryz.prog 62 [] w0 no (fun v w => ∃ b bI bE bN, v = .map (some b) ∧ MapL w b kS (opsL bI bE bN) ∧ Blk w bI ((kindC 0).map (Value.int .u8)) 5 ∧ Blk w bE ((kindC 8).map (Value.int .u8)) 5 ∧ Blk w bN ((kindC 9).map (Value.int .u8)) 5) := by
 have F0 := Fr.refl no w0
 refine ct_body Tryz.func62 rfl Tryz.ntmps62 (Nat.le_of_ble_eq_true rfl) ?_
 refine wk_seq ?_
 refine wk_region ?_
 refine lx_value (want rfl) (as_map rfl) ?_
 refine lx_nil ?_
 refine wk_seq ?_
 refine wk_region ?_
 refine lx_newS (want rfl) (rn_bslice (xs := [_]) Tryz.underlying131 sz_5 ze_5 rfl (argsC (t_int rfl) args0) (CL.cons rfl rfl CL.nil) rfl (Nat.le_of_ble_eq_true rfl)) ?_
 intro b1 w1 hb1 Eb1 B1 hlb1
 have F1 := F0.ext Eb1
 have hzb1 := Eb1.size
 refine lx_value (want rfl) (as_slice rfl) ?_
 refine lx_nil ?_
 refine wk_seq ?_
 refine wk_region ?_
 refine lx_makeMapL kS (want rfl) ?_
 intro b2 w2 hb2 Eb2 B2
 have F2 := F1.ext Eb2
 have hzb2 := Eb2.size
 have hlb2 := B2.lt
 refine lx_value (want rfl) (mv_slice rfl) ?_
 refine lx_value (want rfl) (rn_build3 (t_int rfl) (t_slice rfl) rfl (fun w => bd_134_0_1_2 _ _ _ _ _ _ _ w)) ?_
 refine lx_insL (want rfl) mv_135.g rfl rfl (t_agg rfl) B2 rfl ?_
 intro w3 Em1 HMEm1
 have F3 := F2.set Em1 (by omega)
 have hzm1 := Em1.size
 refine lx_value (want rfl) (mv_slice rfl) ?_
 refine lx_value (want rfl) (rn_build3 (t_int rfl) (t_slice rfl) rfl (fun w => bd_134_0_1_2 _ _ _ _ _ _ _ w)) ?_
 refine lx_insL (want rfl) mv_135.g rfl rfl (t_agg rfl) HMEm1 rfl ?_
 intro w4 Em2 HMEm2
 have F4 := F3.set Em2 (by omega)
 have hzm2 := Em2.size
 refine lx_value (want rfl) (mv_slice rfl) ?_
 refine lx_value (want rfl) (rn_build3 (t_int rfl) (t_slice rfl) rfl (fun w => bd_134_0_1_2 _ _ _ _ _ _ _ w)) ?_
 refine lx_insL (want rfl) mv_135.g rfl rfl (t_agg rfl) HMEm2 rfl ?_
 intro w5 Em3 HMEm3
 have F5 := F4.set Em3 (by omega)
 have hzm3 := Em3.size
 refine lx_value (want rfl) (mv_slice rfl) ?_
 refine lx_value (want rfl) (rn_build3 (t_int rfl) (t_slice rfl) rfl (fun w => bd_134_0_1_2 _ _ _ _ _ _ _ w)) ?_
 refine lx_insL (want rfl) mv_135.g rfl rfl (t_agg rfl) HMEm3 rfl ?_
 intro w6 Em4 HMEm4
 have F6 := F5.set Em4 (by omega)
 have hzm4 := Em4.size
 refine lx_value (want rfl) (mv_slice rfl) ?_
 refine lx_value (want rfl) (rn_build3 (t_int rfl) (t_slice rfl) rfl (fun w => bd_134_0_1_2 _ _ _ _ _ _ _ w)) ?_
 refine lx_insL (want rfl) mv_135.g rfl rfl (t_agg rfl) HMEm4 rfl ?_
 intro w7 Em5 HMEm5
 have F7 := F6.set Em5 (by omega)
 have hzm5 := Em5.size
 refine lx_value (want rfl) (mv_slice rfl) ?_
 refine lx_value (want rfl) (rn_build3 (t_int rfl) (t_slice rfl) rfl (fun w => bd_134_0_1_2 _ _ _ _ _ _ _ w)) ?_
 refine lx_insL (want rfl) mv_135.g rfl rfl (t_agg rfl) HMEm5 rfl ?_
 intro w8 Em6 HMEm6
 have F8 := F7.set Em6 (by omega)
 have hzm6 := Em6.size
 refine lx_value (want rfl) (mv_slice rfl) ?_
 refine lx_value (want rfl) (rn_build3 (t_int rfl) (t_slice rfl) rfl (fun w => bd_134_0_1_2 _ _ _ _ _ _ _ w)) ?_
 refine lx_insL (want rfl) mv_135.g rfl rfl (t_agg rfl) HMEm6 rfl ?_
 intro w9 Em7 HMEm7
 have F9 := F8.set Em7 (by omega)
 have hzm7 := Em7.size
 refine lx_value (want rfl) (mv_slice rfl) ?_
 refine lx_value (want rfl) (rn_build3 (t_int rfl) (t_slice rfl) rfl (fun w => bd_134_0_1_2 _ _ _ _ _ _ _ w)) ?_
 refine lx_insL (want rfl) mv_135.g rfl rfl (t_agg rfl) HMEm7 rfl ?_
 intro w10 Em8 HMEm8
 have F10 := F9.set Em8 (by omega)
 have hzm8 := Em8.size
 refine lx_newS (want rfl) (rn_bslice (xs := [_, _]) Tryz.underlying131 sz_5 ze_5 rfl (argsC (t_int rfl) (argsC (t_int rfl) args0)) (CL.cons rfl rfl (CL.cons rfl rfl CL.nil)) rfl (Nat.le_of_ble_eq_true rfl)) ?_
 intro b3 w11 hb3 Eb3 B3 hlb3
 have F11 := F10.ext Eb3
 have hzb3 := Eb3.size
 refine lx_value (want rfl) (rn_build3 (t_int rfl) (t_slice rfl) rfl (fun w => bd_134_0_1_2 _ _ _ _ _ _ _ w)) ?_
 refine lx_insL (want rfl) mv_135.g rfl rfl (t_agg rfl) (HMEm8.ext Eb3) rfl ?_
 intro w12 Em9 HMEm9
 have F12 := F11.set Em9 (by omega)
 have hzm9 := Em9.size
 refine lx_newS (want rfl) (rn_bslice (xs := [_]) Tryz.underlying131 sz_5 ze_5 rfl (argsC (t_int rfl) args0) (CL.cons rfl rfl CL.nil) rfl (Nat.le_of_ble_eq_true rfl)) ?_
 intro b4 w13 hb4 Eb4 B4 hlb4
 have F13 := F12.ext Eb4
 have hzb4 := Eb4.size
 refine lx_value (want rfl) (rn_build3 (t_int rfl) (t_slice rfl) rfl (fun w => bd_134_0_1_2 _ _ _ _ _ _ _ w)) ?_
 refine lx_insL (want rfl) mv_135.g rfl rfl (t_agg rfl) (HMEm9.ext Eb4) rfl ?_
 intro w14 Em10 HMEm10
 have F14 := F13.set Em10 (by omega)
 have hzm10 := Em10.size
 refine lx_value (want rfl) (mv_map rfl) ?_
 refine lx_value (want rfl) (as_map rfl) ?_
 refine lx_nil ?_
 refine wk_ret ?_
 refine retR1 Tryz.results62 (.tmp (t_map rfl)) F14 ?_
 exact ⟨_, _, _, _, rfl, (show MapL _ _ _ (opsL b1 b3 b4) from HMEm10), (((((((((((((B1.ext Eb2).ne Em1 (by omega)).ne Em2 (by omega)).ne Em3 (by omega)).ne Em4 (by omega)).ne Em5 (by omega)).ne Em6 (by omega)).ne Em7 (by omega)).ne Em8 (by omega)).ext Eb3).ne Em9 (by omega)).ext Eb4).ne Em10 (by omega)), (((B3.ne Em9 (by omega)).ext Eb4).ne Em10 (by omega)), (B4.ne Em10 (by omega))⟩

theorem args_ct (n : Nat) (hn : n ≤ 1000) (w0 : World) :
  CT Tryz.prog 161 [.int .i64 (n : Nat)] w0 no (fun v w => ∃ s c, v = .slice s (argsL n).length c ∧ OwnS w 209 2 s (argsL n).length c ((argsL n).flatMap plC) ∧ ∀ k, ob s k → w0.heap.size ≤ k) := by
 have F0 := Fr.refl no w0
 refine ct_body Tryz.func161 rfl Tryz.ntmps161 (Nat.le_of_ble_eq_true rfl) ?_
 refine wk_seq ?_
 refine wk_region ?_
 refine lx_value (want rfl) (as_slice rfl) ?_
 refine lx_nil ?_
 refine wk_seq ?_
 refine wk_seq ?_
 refine wk_region ?_
 refine lx_value (want rfl) (mv_int rfl) ?_
 refine lx_value (want rfl) (rn_sub rfl rfl (by omega)) ?_
 refine lx_value (v := .int .i64 ((n - 1 : Nat) : Int)) (want rfl) ((by rw [← mx_args n]; exact rn_max rfl rfl)) ?_
 refine lx_value (want rfl) (mv_int rfl) ?_
 refine lx_nil ?_
 refine wk_block ?_
 refine wk_loopA [2, 3, 7, 8, 9, 10, 11, 12, 13, 14, 15, 16] no (fun nM ρ w => ∃ (i : Nat) (so1_1 : Option Addr) (co1_1 : Nat), nM = n - 1 - i ∧ ρ 7 = .int .i64 i ∧ ρ 2 = .slice so1_1 (i) co1_1 ∧ OwnS w 209 2 so1_1 (i) co1_1 (((argsL n).take i).flatMap plC) ∧ (∀ k, ob so1_1 k → w0.heap.size ≤ k) ∧ (∀ k, ob so1_1 k → (ob (none : Option Addr) k ∨ w0.heap.size ≤ k)) ∧ (i ≤ n - 1)) _ ⟨0, none, 0, rfl, rfl, rfl, (OwnS.nil w0 209 2), (fun _ h => ob_none h), (fun k h => .inl h), by omega⟩ ?_
 rintro n1 ρ1 w1 A1 EL1 ⟨i, so1_1, co1_1, rfl, hs1_7, ho1_1, ow1L_1, ge1L_1, bk1L_1, hi⟩
 have F1 := F0.ext EL1
 have hzL1 := EL1.size
 refine wk_seq ?_
 refine wk_region ?_
 refine lx_value (want rfl) (rn_lss hs1_7 (A1.at 6 rfl rfl)) ?_
 refine lx_dec (fun hlt => ?_) (fun hlt => ?_)
 ·
  refine lx_nil ?_
  refine wk_seq ?_
  refine wk_cond_t rfl ?_
  refine wk_skip ?_
  refine wk_seq ?_
  refine wk_block ?_
  refine wk_seq ?_
  refine wk_region ?_
  refine lx_value (want rfl) (mv_int hs1_7) ?_
  refine lx_value (want rfl) (as_int rfl) ?_
  refine lx_nil ?_
  refine wk_region ?_
  refine lx_value (want rfl) (mv_slice ho1_1) ?_
  refine lx_value (want rfl) (mv_int rfl) ?_
  refine lx_value (want rfl) (rn_add rfl rfl (by omega)) ?_
  refine lx_value (want rfl) (rn_build2 (t_int rfl) (t_int rfl) (fun w => bd_209_0_1 _ _ w)) ?_
  refine lx_newS (want rfl) (rn_bslice (xs := [.tmp 13]) Tryz.underlying207 sz_209 ze_209 rfl (argsC (t_agg rfl) args0) (CL.cons rfl rfl CL.nil) rfl (Nat.le_of_ble_eq_true rfl)) ?_
  intro b1 w2 hb1 Eb1 B1 hlb1
  have F2 := F1.ext Eb1
  have hzb1 := Eb1.size
  have nb1 : ∀ k, ob so1_1 k → k ≠ b1 := fun k hk => by have := (ow1L_1).lt hk; omega
  refine lx_append 16 (want rfl) Tryz.underlying207 ti_209 (by decide) rfl (by decide) rfl rfl (ow1L_1.ext Eb1) ((Src.blk B1 rfl rfl)) (by omega) ?_
  intro sq2 cq2 w3 AP2
  have EA2 := AP2.fr
  have ow2 := AP2.own
  have ge2 : ∀ k, ob sq2 k → w0.heap.size ≤ k := fun k hk => (AP2.blk k hk).elim (ge1L_1 k) (fun h => (Nat.le_trans F2.size h))
  have ne2_1 : ∀ k, ob sq2 k → k ≠ b1 := fun k hk => (AP2.blk k hk).elim (nb1 k) (fun h => by have := (B1).lt; omega)
  have bk2_1 : ∀ k, ob sq2 k → (ob (none : Option Addr) k ∨ w0.heap.size ≤ k) := fun k hk => (AP2.blk k hk).elim (bk1L_1 k) (fun h => .inr (by omega))
  have F3 := F2.new EA2 ge1L_1
  have hzA2 := EA2.size
  have BA2_1 := B1.fr EA2 (fun h => nb1 _ h rfl)
  refine lx_value (want rfl) (as_slice rfl) ?_
  refine lx_nil ?_
  refine wk_region ?_
  refine lx_value (want rfl) (rn_add hs1_7 rfl (by omega)) ?_
  refine lx_value (want rfl) (mv_int rfl) ?_
  refine lx_nil ?_
  exact ⟨rfl, ((((((((((((A1.up rfl _).up rfl _).up rfl _).up rfl _).up rfl _).up rfl _).up rfl _).up rfl _).up rfl _).up rfl _).up rfl _).up rfl _), (Fr.trans (Fr.ext EL1 Eb1) EA2 (fun i hi1 h => ((bk1L_1 _ h).elim (fun h => (ob_none h)) (fun h => absurd hi1 (by omega))))), _, (by omega), i + 1, sq2, cq2, rfl, rfl, rfl, (own_take (argsL_at (by omega)) ow2 rfl), ge2, bk2_1, by omega⟩
 ·
  refine lx_nil ?_
  refine wk_seq ?_
  refine wk_cond_f rfl ?_
  refine wk_exit ?_
  refine wk_seq ?_
  refine wk_region ?_
  refine lx_value (want rfl) (mv_slice ho1_1) ?_
  refine lx_value (want rfl) (as_slice rfl) ?_
  refine lx_nil ?_
  refine wk_ret ?_
  refine retR1 Tryz.results161 (.tmp (t_slice rfl)) F1 ?_
  have hlen := argsL_len n; obtain rfl : i = (argsL n).length := by omega
  exact ⟨_, _, rfl, by have h := ow1L_1; rwa [List.take_length] at h, ge1L_1⟩

end Go.Proofs.YtgnnegfnpgnbbaaGreatDoor

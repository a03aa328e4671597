/- What functions compute: owners1, kports, home, areops, istok, eqslots, eqins, issent1. -/
import Derived.Test.YtgnnegfnpgnbbaaGreatDoorHomesFacts
import Derived.Test.YtgnnegfnpgnbbaaGreatDoorHomesPre
import Derived.Test.YtgnnegfnpgnbbaaGreatDoorHomesWalk10
import Derived.Test.YtgnnegfnpgnbbaaGreatDoorHomesWalk2
import Derived.Test.YtgnnegfnpgnbbaaGreatDoorHomesWalk3
import Derived.Test.YtgnnegfnpgnbbaaGreatDoorHomesWalk6
import Derived.Test.YtgnnegfnpgnbbaaGreatDoorHomesWalk8
import Derived.Test.YtgnnegfnpgnbbaaGreatDoorHomesWalk9
set_option maxRecDepth 100000
set_option linter.unusedVariables false
set_option linter.unusedSimpArgs false
namespace Go.Proofs.YtgnnegfnpgnbbaaGreatDoor
open Go Go.RowKit Go.Mix Go.Eng
theorem owners1_ct (ln bq : Nat) (F : Nat → Prop) (l : List Sg) (b : Nat) (g : Sg) (ss : Option Addr) (cs : Nat) (si : Option Addr) (ci : Nat) (hsm : smallG l = true) (hsi : smallI g.ins = true) (hsd : smallD g.st = true) (hok : g.ins.all (okN l) = true) (hlp : isLoopB g.ins = false) (hst1 : ∀ x ∈ l, 1 ≤ x.st.length) (hFbq : ¬ F bq) (K : List Ow1 → World → Prop) (Z : World → Prop) (w0 : World) (h0 : K (ownI l g.ins 0 (nodesN g.ins)) w0) (hbx : ∀ r w, K r w → Blk w bq [.pointer (some ⟨b, 0, none⟩), .string g.nm, .int .i64 (g.ex : Nat), .slice ss g.st.length cs, .slice si g.ins.length ci] 193 ∧ GRd F w g ss si ci ∧ PrgO F w b l) (hfr : ∀ r w, K r w → Fr (fun k => ¬ F k) w0 w) (hZ : ∀ w, Z w → Fr (fun _ => True) w0 w) (hY : ∀ (x : Ow1) r w1 w2 (s : Option Addr) (c : Nat), DsS (fun k => w0.heap.size ≤ k) w2 s x.2 ∧ x.2.length ≤ 1000 → K (x :: r) w1 → Ext w1 w2 → Yd Tryz.prog ln [.int .i64 (x.1 : Nat), .slice s x.2.length c] w2 (fun c w3 => w2.heap.size ≤ w3.heap.size ∧ Nx (K r w3) (Z w3) c)) :
  CT Tryz.prog 163 [.func (.yield ln) #[] #[], .pointer (some ⟨bq, 0, none⟩)] w0 (fun _ => True) (fun _ w => (∃ w1, K [] w1 ∧ Ext w1 w) ∨ ∃ w1, Z w1 ∧ Ext w1 w) := by
 obtain ⟨B20, hg, hp⟩ := hbx _ _ h0
 have hg0 := hg
 obtain ⟨hgs, hgi, hgr⟩ := hg0
 have hsl := smallI_len hsi
 have hnl := nodesN_le g.ins
 have F0 := Fr.refl (fun _ => True) w0
 refine ct_body Tryz.func163 rfl Tryz.ntmps163 (Nat.le_of_ble_eq_true rfl) ?_
 refine wk_seq ?_
 refine wk_region ?_
 refine lx_value (want rfl) (rn_loadBlk ag_193 sz_193 rfl B20 rfl rfl) ?_
 refine lx_call (want rfl) (ent_func cf_141 (argsC (t_agg rfl) args0)) (nodes_ct _ g ss cs si ci F hsl w0 (hgi.fr (in_stab F) (Fr.refl no w0) (fun _ _ h => h))) ?_
 rintro _ w1 E1 rfl
 have F1 := F0.ext E1
 have hz1 := E1.size
 refine lx_value (want rfl) (as_int rfl) ?_
 refine lx_nil ?_
 refine wk_seq ?_
 refine wk_region ?_
 refine lx_value (want rfl) (rn_fieldAddr fa_193_1 rfl) ?_
 refine lx_value (want rfl) (rn_fieldAddr fa_181_3 rfl) ?_
 refine lx_value (want rfl) (rn_load1Blk ag_33 rfl (B20.ext E1) rfl) ?_
 refine lx_value (want rfl) (rn_len Tryz.underlying33 rfl) ?_
 refine lx_value (want rfl) (mv_int rfl) ?_
 refine lx_nil ?_
 refine wk_block ?_
 refine wk_loopA [3, 4, 5, 6, 7, 8, 15, 16, 17, 18, 19, 20, 21, 22, 23, 24, 25, 26, 27, 28, 29, 30, 31, 32, 33, 34, 35, 36, 37, 38, 39, 40, 41, 42, 43, 44, 45, 46, 47, 48, 49, 50, 51, 52, 53, 54, 55, 56, 57, 58, 59] (fun j => (fun _ => True) j ∨ w0.heap.size ≤ j) (fun nM ρ w => ∃ (n nx : Nat), nM = g.ins.length - n ∧ ρ 3 = .int .i64 nx ∧ ρ 15 = .int .i64 n ∧ (∃ w1, K (ownI l (g.ins.drop n) n nx) w1 ∧ Ext w1 w) ∧ (n ≤ g.ins.length) ∧ (nx ≤ 1000 + 1000 * n)) _ ⟨0, (nodesN g.ins), rfl, rfl, rfl, ⟨w0, h0, ((Fr.refl no w0).trans' E1)⟩, by omega, by omega⟩ ?_
 rintro n1 ρ1 w2 A1 EL1 ⟨n, nx, rfl, hs1_3, hs1_15, hK, hn, hnx⟩
 have F2 := F1.wide EL1
 have hzL1 := EL1.size
 obtain ⟨wK, hK, EK⟩ := hK
 have BK := (hbx _ _ hK).1.ext EK
 have HF := (hfr _ _ hK).ext EK
 have hlK := BK.lt
 refine wk_seq ?_
 refine wk_region ?_
 refine lx_value (want rfl) (rn_lss hs1_15 (A1.at 14 rfl rfl)) ?_
 refine lx_dec (fun hlt => ?_) (fun hlt => ?_)
 ·
  obtain ⟨x, hx⟩ := getx hlt
  obtain ⟨by_, oy, hsy, hFy, so, co, hcy, hco⟩ := hgi n x hx
  subst hsy
  have hKn := hK
  rw [drop_at hx] at hKn
  have hn23 := not23 hlp hx
  refine lx_nil ?_
  refine wk_seq ?_
  refine wk_cond_t rfl ?_
  refine wk_skip ?_
  refine wk_seq ?_
  refine wk_block ?_
  refine wk_seq ?_
  refine wk_region ?_
  refine lx_value (want rfl) (mv_int hs1_15) ?_
  refine lx_value (want rfl) (rn_index _ Tryz.underlying33 sz_73 (A1.at 13 rfl rfl) hs1_15 rfl (by omega)) ?_
  refine lx_value (want rfl) (rn_loadN ag_73 sz_73 rfl rfl (hcy.fr (HF.ext (Fr.refl no w2)) (fun m => m hFy))) ?_
  refine lx_new (want rfl) (rn_alloc ze_73) ?_
  intro b21 w3 hb21 Eb21 B21 hlb21
  have F3 := F2.ext Eb21
  have hzb21 := Eb21.size
  refine lx_value (want rfl) (as_int rfl) ?_
  refine lx_set (want rfl) sz_73 rfl (t_agg rfl) rfl rfl rfl B21 (Nat.le_of_ble_eq_true rfl) ?_
  intro w4 Es1 Bs1
  have F4 := F3.set Es1 (by omega)
  have hzs1 := Es1.size
  refine lx_nil ?_
  refine wk_seq ?_
  refine wk_region ?_
  refine lx_value (want rfl) (rn_fieldAddr fa_73_0 rfl) ?_
  refine lx_value (want rfl) (rn_load1Blk ag_5 rfl Bs1 rfl) ?_
  refine lx_nil ?_
  refine wk_block ?_
  refine wk_seq ?_
  refine wk_region ?_
  refine lx_value (want rfl) (rn_eql rfl rfl) ?_
  refine lx_dec (fun h20 => ?_) (fun h20 => ?_)
  ·
   rw [ownI_20 h20] at hKn
   have hokN := okN_at (all_at hok hx) h20
   have hcS := smallG_at hsm (callee_at (Bool.and_eq_true_iff.1 hokN).1).choose_spec.1
   have hcl := smallD_len hcS.1
   have hcst := (by assumption : ∀ x ∈ l, 1 ≤ x.st.length) _ (List.mem_of_getElem? (callee_at (Bool.and_eq_true_iff.1 hokN).1).choose_spec.1)
   refine lx_value (want rfl) (as_bool rfl) ?_
   refine lx_nil ?_
   refine wk_cond_t rfl ?_
   refine wk_seq ?_
   refine wk_region ?_
   refine lx_value (want rfl) (rn_fieldAddr fa_193_0 (A1.at 1 rfl rfl)) ?_
   refine lx_value (want rfl) (rn_load1Blk ag_182 rfl ((BK.ext Eb21).ne Es1 (by omega)) rfl) ?_
   refine lx_value (want rfl) (rn_loadBlk ag_73 sz_73 rfl Bs1 rfl rfl) ?_
   refine lx_call (want rfl) (ent_func cf_160 (argsC (t_pointer rfl) (argsC (t_agg rfl) args0))) (named_ct F l b x so co hsm hokN w4 (hp.fr (HF.trans (Fr.trans (Fr.ext (Fr.refl (fun k => k = b21) w2) Eb21) Es1 (fun k _ h => h)) (fun i hi h => by have h : i = b21 := h; exact absurd hi (by omega))) nn)) ?_
   rintro _ w5 E2 ⟨ssC, csC, siC, ciC, rfl, hGC⟩
   have F5 := F4.ext E2
   have hz2 := E2.size
   refine lx_value (want rfl) (mv_tuple rfl) ?_
   refine lx_value (want rfl) (rn_extract rfl rfl) ?_
   refine lx_value (want rfl) (rn_extract rfl rfl) ?_
   refine lx_new (want rfl) (rn_alloc ze_181) ?_
   intro b22 w6 hb22 Eb22 B22 hlb22
   have F6 := F5.ext Eb22
   have hzb22 := Eb22.size
   refine lx_set (want rfl) sz_181 rfl (t_agg rfl) rfl rfl rfl B22 (Nat.le_of_ble_eq_true rfl) ?_
   intro w7 Es2 Bs2
   have F7 := F6.set Es2 (by omega)
   have hzs2 := Es2.size
   refine lx_value (want rfl) (as_bool rfl) ?_
   refine lx_nil ?_
   refine wk_seq ?_
   refine wk_region ?_
   refine lx_value (want rfl) (rn_fieldAddr fa_181_2 rfl) ?_
   refine lx_value (want rfl) (rn_load1Blk ag_71 rfl Bs2 rfl) ?_
   refine lx_value (want rfl) (rn_len Tryz.underlying71 rfl) ?_
   refine lx_value (v := .int .i64 (((callee0 l x.nm).st.length - 1 : Nat) : Int)) (want rfl) ((by rw [show (((callee0 l x.nm).st.length - 1 : Nat) : Int) = ((callee0 l x.nm).st.length : Int) - 1 by omega]; exact rn_sub rfl rfl (by omega))) ?_
   refine lx_value (want rfl) (as_int rfl) ?_
   refine lx_nil ?_
   refine wk_seq ?_
   refine wk_seq ?_
   refine wk_region ?_
   refine lx_value (want rfl) (mv_func (A1.at 0 rfl rfl)) ?_
   refine lx_value (want rfl) (mv_int rfl) ?_
   refine lx_value (want rfl) (mv_int hs1_3) ?_
   refine lx_value (want rfl) (mv_int rfl) ?_
   refine lx_call (want rfl) (ent_func cf_164 (argsC (t_int rfl) (argsC (t_int rfl) args0))) (firsts_ct _ _ (by omega) (by omega) w7) ?_
   rintro _ w8 E3 ⟨sR, cR, rfl, hOR, hgR⟩
   have F8 := F7.ext E3
   have hz3 := E3.size
   refine lx_yield (want rfl) rfl (argsC (t_int rfl) (argsC (t_slice rfl) args0)) (hY _ _ wK w8 sR cR ⟨(hOR.sl (by decide) rfl (fun _ _ => rfl) (fun k hk => (by have := hgR k hk; omega : w0.heap.size ≤ k))).fr (ds_stab _) (Fr.refl no w8) (fun _ _ h => h), by rw [firstsL_len]; omega⟩ hKn (EK.trans' ((Fr.ext (Fr.trans (Fr.ext (Fr.ext (Fr.trans (Fr.ext (Fr.refl (fun k => k = b21 ∨ k = b22) w2) Eb21) Es1 (fun k _ h => (.inl h))) E2) Eb22) Es2 (fun k _ h => (.inr h))) E3).mono (fun i hi h => by have h : i = b21 ∨ i = b22 := h; exact absurd hi (by omega))))) ?_
   intro cY w9 ⟨hzY, HY⟩
   refine lx_split (fun h40 => ?_) (fun h40 => ?_)
   ·
    subst h40
    have HY : K _ _ := HY
    have FYK := hfr _ _ HY
    have FY := FYK.mono (fun _ _ _ => trivial : ∀ i, i < w0.heap.size → ¬ F i → (fun _ => True) i)
    refine lx_value (want rfl) (rn_not rfl) ?_
    refine lx_nil ?_
    refine wk_cond_f rfl ?_
    refine wk_skip ?_
    refine wk_region ?_
    refine lx_value (want rfl) (mv_int hs1_3) ?_
    refine lx_value (want rfl) (mv_int rfl) ?_
    refine lx_value (want rfl) (rn_addN rfl rfl (by omega)) ?_
    refine lx_value (want rfl) (as_int rfl) ?_
    refine lx_nil ?_
    refine wk_region ?_
    refine lx_value (want rfl) (rn_add hs1_15 rfl (by omega)) ?_
    refine lx_value (want rfl) (mv_int rfl) ?_
    refine lx_nil ?_
    exact ⟨rfl, (((((((((((((((((((((((((((((((((((((((A1.up rfl _).up rfl _).up rfl _).up rfl _).up rfl _).up rfl _).none _).up rfl _).up rfl _).up rfl _).up rfl _).up rfl _).up rfl _).up rfl _).up rfl _).up rfl _).up rfl _).up rfl _).up rfl _).none _).up rfl _).up rfl _).up rfl _).up rfl _).up rfl _).up rfl _).up rfl _).up rfl _).up rfl _).up rfl _).up rfl _).up rfl _).up rfl _).up rfl _).up rfl _).up rfl _).up rfl _).up rfl _).up rfl _), Fr.between F1 FY (by omega), _, (by omega), n + 1, (nx + ((callee0 l x.nm).st.length - 1)), rfl, rfl, rfl, ⟨_, HY, (Fr.refl no w9)⟩, by omega, by omega⟩
   ·
    subst h40
    have HY : Z _ := HY
    have FY := hZ _ HY
    refine lx_value (want rfl) (rn_not rfl) ?_
    refine lx_nil ?_
    refine wk_cond_t rfl ?_
    refine wk_ret ?_
    refine ret0 Tryz.results163 FY ?_
    exact .inr ⟨_, HY, Fr.refl no _⟩
  ·
   rw [ownI_no h20] at hKn
   refine lx_value (want rfl) (as_bool rfl) ?_
   refine lx_nil ?_
   refine wk_cond_f rfl ?_
   refine wk_seq ?_
   refine wk_region ?_
   refine lx_value (want rfl) (rn_eql rfl rfl) ?_
   refine lx_dec_f (hn23) ?_
   refine lx_value (want rfl) (as_bool rfl) ?_
   refine lx_nil ?_
   refine wk_cond_f rfl ?_
   refine wk_skip ?_
   refine wk_region ?_
   refine lx_value (want rfl) (rn_add hs1_15 rfl (by omega)) ?_
   refine lx_value (want rfl) (mv_int rfl) ?_
   refine lx_nil ?_
   exact ⟨rfl, (((((((((((((((A1.up rfl _).up rfl _).up rfl _).up rfl _).up rfl _).up rfl _).none _).up rfl _).up rfl _).up rfl _).up rfl _).up rfl _).up rfl _).up rfl _).up rfl _), Fr.between F1 F4 (by omega), _, (by omega), n + 1, nx, rfl, hs1_3, rfl, ⟨wK, hKn, EK.trans' ((Fr.trans (Fr.ext (Fr.refl (fun k => k = b21) w2) Eb21) Es1 (fun k _ h => h)).mono (fun i hi h => by have h : i = b21 := h; exact absurd hi (by omega)))⟩, by omega, by omega⟩
 ·
  refine lx_nil ?_
  refine wk_seq ?_
  refine wk_cond_f rfl ?_
  refine wk_exit ?_
  (try simp only [thenK, blockK, if_true])
  refine retN ?_
  refine ret0 Tryz.results163 F2 ?_
  exact .inl ⟨wK, (by rw [drop_end hlt] at hK; exact hK), EK.trans' (Fr.refl no w2)⟩

theorem kports_ct (F : Nat → Prop) (l : List Sg) (b : Nat) (x : Ins) (so : Option Addr) (co : Nat) (hsm : smallG l = true) (hok : okN l x = true) (w0 : World) (hp : PrgO F w0 b l) :
  CT Tryz.prog 147 [.pointer (some ⟨b, 0, none⟩), .agg #[.int .u8 x.op, .string x.nm, .int .i64 x.n, .slice so x.outs.length co]] w0 no (fun v _ => v = .tuple #[.int .i64 (insP x), .int .i64 (outP l x)]) := by
 have hp0 := hp
 obtain ⟨sl, cl, ba, bs, hB, hA, hSh, hL, hFb, hFa, hFs⟩ := hp
 have F0 := Fr.refl no w0
 refine ct_body Tryz.func147 rfl Tryz.ntmps147 (Nat.le_of_ble_eq_true rfl) ?_
 refine wk_seq ?_
 refine wk_region ?_
 refine lx_new (want rfl) (rn_box (t_agg rfl)) ?_
 intro b21 w1 hb21 Eb21 B21 hlb21
 have F1 := F0.ext Eb21
 have hzb21 := Eb21.size
 refine lx_value (want rfl) (as_int rfl) ?_
 refine lx_value (want rfl) (as_int rfl) ?_
 refine lx_nil ?_
 refine wk_seq ?_
 refine wk_mix 9 (fun kS => match kS with | 7 => .any (fun I v w => v = .pointer (some ⟨I.1, 0, none⟩) ∧ w1.heap.size ≤ I.1 ∧ I.1 < I.2 ∧ Blk w I.1 [.string ⟨#[]⟩, .int .i64 0, .int .i64 0, .bool false, .bool false] 228) | 8 => .sto 6 15 (fun J u w => J.1 < J.2 ∧ Blk w J.1 u.cells.toList 228) | _ => .none) (by kernel_rfl) (by kernel_rfl) (by intro kS G hk; (try dsimp only at hk); (split at hk) <;> first | (cases hk; done) | (injection hk with hk; subst hk; exact ⟨by intro j hkj I v w w' hR hG; first | exact hG | (obtain ⟨h1, h2, hI, h3⟩ := hG; exact ⟨h1, h2, hI, h3.ext hR⟩), fun _ I v w w' hR hG => by first | exact hG | (obtain ⟨h1, h2, hI, h3⟩ := hG; exact ⟨h1, h2, hI, h3.fr hR (fun h => h.2 ⟨Nat.le_refl _, hI⟩)⟩)⟩)) (by intro kS s y G hk; (try dsimp only at hk); (split at hk) <;> first | (cases hk; done) | (injection hk with hk1 hk2 hk3; subst hk1; subst hk2; subst hk3; exact ⟨by kernel_rfl, by intro j hkj I v w w' hR hG; exact ⟨hG.1, hG.2.ext hR⟩, fun I v w w' hR hG => ⟨hG.1, hG.2.fr hR (fun h => h.2 ⟨Nat.le_refl _, hG.1⟩)⟩⟩)) ?_
 simp only [List.take_succ_cons, List.take_zero, List.take_nil, List.drop_succ_cons, List.drop_zero, List.drop_nil]
 refine mx_calm rfl (want rfl) (fun u1 eu1 fu1 => mv_pointer rfl) ?_
 refine mx_calm rfl (want rfl) (fun u2 eu2 fu2 => rn_nilCheck rfl) ?_
 refine mx_calm rfl (want rfl) (fun u3 eu3 fu3 => rn_fieldAddr fa_188_2 rfl) ?_
 refine mx_calm rfl (want rfl) (fun u4 eu4 fu4 => rn_load1Blk ag_186 rfl ((hB.ext Eb21).ext ((ext_drawn _).trans' eu4)) rfl) ?_
 refine mx_calm rfl (want rfl) (fun u5 eu5 fu5 => rn_fieldAddr fa_73_0 rfl) ?_
 refine mx_calm rfl (want rfl) (fun u6 eu6 fu6 => rn_load1Blk ag_5 rfl (B21.ext ((ext_drawn _).trans' eu6)) rfl) ?_
 refine mx_calm (v := .agg #[.string (shG x.op).1, .int .i64 (shG x.op).2.1, .int .i64 (shG x.op).2.2.1, .bool (shG x.op).2.2.2.1, .bool (shG x.op).2.2.2.2]) rfl (want rfl) (fun u7 eu7 fu7 => (by rw [look_shv]; exact rn_lookL (k := x.op) mv_186.g rfl rfl (hSh.fr (F1.ext ((ext_drawn _).trans' eu7)) (fun h => h)))) ?_
 refine mx_any rfl rfl (want rfl) (fun u8 eu8 fu8 => (do_new3 (rn_alloc ze_228) (show _ ≤ _ from (((ext_drawn _).trans' eu8)).size)).mono (fun v w' h => ⟨h.1, h.2⟩)) (fun I6 v6 => ?_)
 refine mx_sto rfl rfl rfl rfl (want rfl) (fun u9 eu9 fu9 _ => by obtain ⟨rfl, hl6, hi6, hB6⟩ := fu9 6 _ rfl (show (6 : Nat) ∈ _ from by decide); exact (do_sto sz_228 rfl rfl rfl rfl rfl hB6 rfl ⟨Nat.le_refl _, hi6⟩).mono (fun v w' h => ⟨h.1, h.2.1, hi6, h.2.2⟩)) ?_
 refine mx_nil (fun w2 E1' H1 HS => ?_)
 have E1 := (ext_drawn _).trans' E1'
 have F2 := F1.ext E1
 have hz1 := E1.size
 have hI6 := (HS.1 6 _ rfl).2
 simp only at hI6
 have g6 := H1 6 _ rfl
 obtain ⟨⟨_, hv6, hb6, _, _⟩, hi6, hB6⟩ := g6; subst hv6; have hlb6 := hB6.lt
 refine lx_nil ?_
 refine wk_seq ?_
 refine wk_seq ?_
 refine wk_region ?_
 refine lx_value (want rfl) (rn_fieldAddr fa_73_0 rfl) ?_
 refine lx_value (want rfl) (rn_load1Blk ag_5 rfl (B21.ext E1) rfl) ?_
 refine lx_nil ?_
 refine wk_block ?_
 refine wk_seq ?_
 refine wk_region ?_
 refine lx_value (want rfl) (rn_eql rfl rfl) ?_
 refine lx_dec (fun h4 => ?_) (fun h4 => ?_)
 ·
  refine lx_value (want rfl) (as_bool rfl) ?_
  refine lx_nil ?_
  refine wk_cond_t rfl ?_
  refine wk_seq ?_
  refine wk_mix 6 (fun kS => match kS with | 2 => .val (.int .i64 (arS x.nm : Nat)) | _ => .none) (by kernel_rfl) (by kernel_rfl) (by intro kS G hk; (try dsimp only at hk); (split at hk) <;> first | (cases hk; done) | (injection hk with hk; subst hk; exact ⟨by intro j hkj I v w w' hR hG; first | exact hG, fun ⟨_, _, _, _, hs⟩ => by (try dsimp only at hs); split at hs <;> cases hs⟩)) (by intro kS s y G hk; (try dsimp only at hk); split at hk <;> cases hk) ?_
  simp only [List.take_succ_cons, List.take_zero, List.take_nil, List.drop_succ_cons, List.drop_zero, List.drop_nil]
  refine mx_calm rfl (want rfl) (fun u10 eu10 fu10 => rn_fieldAddr fa_73_1 rfl) ?_
  refine mx_calm rfl (want rfl) (fun u11 eu11 fu11 => rn_load1Blk ag_9 rfl ((B21.ext E1).ext ((ext_drawn _).trans' eu11)) rfl) ?_
  refine mx_val rfl (want rfl) (fun u12 eu12 fu12 => do_call (ent_func cf_35 (argsC (t_string rfl) args0)) (operands_ct _ u12) (fun _ _ E h => ⟨E, h⟩)) ?_
  refine mx_calm rfl (want rfl) (fun u13 eu13 fu13 => rn_fieldAddr fa_228_2 rfl) ?_
  refine mx_calm rfl (want rfl) (fun u14 eu14 fu14 => rn_load1Blk ag_3 rfl (hB6.ext ((ext_drawn _).trans' eu14)) rfl) ?_
  refine mx_calm rfl (want rfl) (fun u15 eu15 fu15 => as_int rfl) ?_
  refine mx_nil (fun w3 E2' H2 HS => ?_)
  have E2 := (ext_drawn _).trans' E2'
  have F3 := F2.ext E2
  have hz2 := E2.size
  refine lx_value (want rfl) (as_int rfl) ?_
  refine lx_nil ?_
  refine wk_ret ?_
  refine retR2 Tryz.results147 (.tmp (t_int rfl)) (.tmp (t_int rfl)) F3 ?_
  exact pt_4 h4
 ·
  refine lx_value (want rfl) (as_bool rfl) ?_
  refine lx_nil ?_
  refine wk_cond_f rfl ?_
  refine wk_seq ?_
  refine wk_region ?_
  refine lx_value (want rfl) (rn_eql rfl rfl) ?_
  refine lx_dec (fun h20 => ?_) (fun h20 => ?_)
  ·
   refine lx_value (want rfl) (as_bool rfl) ?_
   refine lx_nil ?_
   refine wk_cond_t rfl ?_
   refine wk_seq ?_
   refine wk_region ?_
   refine lx_value (want rfl) (mv_pointer rfl) ?_
   refine lx_value (want rfl) (rn_loadBlk ag_73 sz_73 rfl (B21.ext E1) rfl rfl) ?_
   have hokN := okN_at hok h20
   have hcx := smallG_at hsm (callee_at (Bool.and_eq_true_iff.1 hokN).1).choose_spec.1
   refine lx_call (want rfl) (ent_func cf_160 (argsC (t_pointer rfl) (argsC (t_agg rfl) args0))) (named_ct F l b x so co hsm hokN w2 (hp0.fr F2 (fun _ _ h => h))) ?_
   rintro _ w3 E3 ⟨ssC, csC, siC, ciC, rfl, hGC⟩
   have F4 := F2.ext E3
   have hz3 := E3.size
   refine lx_value (want rfl) (mv_tuple rfl) ?_
   refine lx_value (want rfl) (rn_extract rfl rfl) ?_
   refine lx_value (want rfl) (rn_extract rfl rfl) ?_
   refine lx_new (want rfl) (rn_alloc ze_181) ?_
   intro b22 w4 hb22 Eb22 B22 hlb22
   have F5 := F4.ext Eb22
   have hzb22 := Eb22.size
   refine lx_set (want rfl) sz_181 rfl (t_agg rfl) rfl rfl rfl B22 (Nat.le_of_ble_eq_true rfl) ?_
   intro w5 Es1 Bs1
   have F6 := F5.set Es1 (by omega)
   have hzs1 := Es1.size
   refine lx_value (want rfl) (as_bool rfl) ?_
   refine lx_nil ?_
   refine wk_seq ?_
   refine wk_mix 6 (fun _ => .none) (by kernel_rfl) (by kernel_rfl) (fun kS G hk => by cases hk) (fun kS s y G hk => by cases hk) ?_
   simp only [List.take_succ_cons, List.take_zero, List.take_nil, List.drop_succ_cons, List.drop_zero, List.drop_nil]
   refine mx_calm rfl (want rfl) (fun u16 eu16 fu16 => rn_fieldAddr fa_228_1 rfl) ?_
   refine mx_calm rfl (want rfl) (fun u17 eu17 fu17 => rn_load1Blk ag_3 rfl ((((hB6.ext E3).ext Eb22).ne Es1 (by omega)).ext ((ext_drawn _).trans' eu17)) rfl) ?_
   refine mx_calm rfl (want rfl) (fun u18 eu18 fu18 => rn_fieldAddr fa_181_1 rfl) ?_
   refine mx_calm rfl (want rfl) (fun u19 eu19 fu19 => rn_load1Blk ag_3 rfl (Bs1.ext ((ext_drawn _).trans' eu19)) rfl) ?_
   refine mx_calm rfl (want rfl) (fun u20 eu20 fu20 => rn_add rfl rfl (by omega)) ?_
   refine mx_calm rfl (want rfl) (fun u21 eu21 fu21 => as_int rfl) ?_
   refine mx_nil (fun w6 E4' H3 HS => ?_)
   have E4 := (ext_drawn _).trans' E4'
   have F7 := F6.ext E4
   have hz4 := E4.size
   refine lx_value (want rfl) (as_int rfl) ?_
   refine lx_nil ?_
   refine wk_ret ?_
   refine retR2 Tryz.results147 (.tmp (t_int rfl)) (.tmp (t_int rfl)) F7 ?_
   exact pt_20 h4 h20
  ·
   refine lx_value (want rfl) (as_bool rfl) ?_
   refine lx_nil ?_
   refine wk_cond_f rfl ?_
   refine wk_skip ?_
   refine wk_seq ?_
   refine wk_mix 5 (fun _ => .none) (by kernel_rfl) (by kernel_rfl) (fun kS G hk => by cases hk) (fun kS s y G hk => by cases hk) ?_
   simp only [List.take_succ_cons, List.take_zero, List.take_nil, List.drop_succ_cons, List.drop_zero, List.drop_nil]
   refine mx_calm rfl (want rfl) (fun u22 eu22 fu22 => rn_fieldAddr fa_228_1 rfl) ?_
   refine mx_calm rfl (want rfl) (fun u23 eu23 fu23 => rn_load1Blk ag_3 rfl (hB6.ext ((ext_drawn _).trans' eu23)) rfl) ?_
   refine mx_calm rfl (want rfl) (fun u24 eu24 fu24 => rn_fieldAddr fa_228_2 rfl) ?_
   refine mx_calm rfl (want rfl) (fun u25 eu25 fu25 => rn_load1Blk ag_3 rfl (hB6.ext ((ext_drawn _).trans' eu25)) rfl) ?_
   refine mx_calm rfl (want rfl) (fun u26 eu26 fu26 => as_int rfl) ?_
   refine mx_nil (fun w3 E5' H4 HS => ?_)
   have E5 := (ext_drawn _).trans' E5'
   have F8 := F2.ext E5
   have hz5 := E5.size
   refine lx_value (want rfl) (as_int rfl) ?_
   refine lx_nil ?_
   refine wk_ret ?_
   refine retR2 Tryz.results147 (.tmp (t_int rfl)) (.tmp (t_int rfl)) F8 ?_
   exact pt_0 h4 h20

theorem home_ct (ctx at_ n : Int) (w0 : World) :
  CT Tryz.prog 4 [.agg #[.int .i64 ctx, .int .i64 at_], .int .i64 n] w0 no (fun v _ => v = homeV ctx at_ n) := by
 have F0 := Fr.refl no w0
 refine ct_body Tryz.func4 rfl Tryz.ntmps4 (Nat.le_of_ble_eq_true rfl) ?_
 refine wk_seq ?_
 refine wk_region ?_
 refine lx_new (want rfl) (rn_box (t_agg rfl)) ?_
 intro b1 w1 hb1 Eb1 B1 hlb1
 have F1 := F0.ext Eb1
 have hzb1 := Eb1.size
 refine lx_value (want rfl) (as_int rfl) ?_
 refine lx_value (want rfl) (as_int rfl) ?_
 refine lx_nil ?_
 refine wk_seq ?_
 refine wk_seq ?_
 refine wk_region ?_
 refine lx_value (want rfl) (mv_int rfl) ?_
 refine lx_newS (want rfl) (rn_bslice (xs := [.tmp 6]) Tryz.underlying68 sz_3 ze_3 rfl (argsC (t_int rfl) args0) (CL.cons rfl rfl CL.nil) rfl (Nat.le_of_ble_eq_true rfl)) ?_
 intro b2 w2 hb2 Eb2 B2 hlb2
 have F2 := F1.ext Eb2
 have hzb2 := Eb2.size
 refine lx_call (want rfl) (ent_func cf_7 (argsC (t_int rfl) (argsC (t_int rfl) (argsC (t_slice rfl) args0)))) (ewithin_ct _ _ _ _ _ w2 (one_sl B2)) ?_
 rintro _ w3 E1 rfl
 have F3 := F2.ext E1
 have hz1 := E1.size
 refine lx_split (fun h1 => ?_) (fun h1 => ?_)
 ·
  refine lx_value (want rfl) (rn_not rfl) ?_
  refine lx_value (want rfl) (mv_bool rfl) ?_
  refine lx_value (want_if (j := 4) (d := 10) (x := false) (y := false) rfl rfl (by decide) rfl) (rn_fieldAddr fa_23_0 rfl) ?_
  refine lx_value (want_if (j := 4) (d := 10) (x := false) (y := false) rfl rfl (by decide) rfl) (rn_load1Blk ag_3 rfl ((B1.ext Eb2).ext E1) rfl) ?_
  refine lx_call (want_if (j := 4) (d := 10) (x := false) (y := false) rfl rfl (by decide) rfl) (ent_func cf_8 (argsC (t_int rfl) args0)) (isctx_ct _ w3) ?_
  rintro _ w4 E2 rfl
  have F4 := F3.ext E2
  have hz2 := E2.size
  refine lx_split (fun h2 => ?_) (fun h2 => ?_)
  ·
   refine lx_value (want_if (j := 4) (d := 10) (x := false) (y := false) rfl rfl (by decide) rfl) (rn_not rfl) ?_
   refine lx_value (want rfl) (pick_f rfl rfl) ?_
   refine lx_value (want rfl) (mv_bool rfl) ?_
   refine lx_value (want_if (j := 10) (d := 16) (x := false) (y := false) rfl rfl (by decide) rfl) (rn_fieldAddr fa_23_1 rfl) ?_
   refine lx_value (want_if (j := 10) (d := 16) (x := false) (y := false) rfl rfl (by decide) rfl) (rn_load1Blk ag_3 rfl (((B1.ext Eb2).ext E1).ext E2) rfl) ?_
   refine lx_newS (want_if (j := 10) (d := 16) (x := false) (y := false) rfl rfl (by decide) rfl) (rn_bslice (xs := [.tmp 18]) Tryz.underlying68 sz_3 ze_3 rfl (argsC (t_int rfl) args0) (CL.cons rfl rfl CL.nil) rfl (Nat.le_of_ble_eq_true rfl)) ?_
   intro b3 w5 hb3 Eb3 B3 hlb3
   have F5 := F4.ext Eb3
   have hzb3 := Eb3.size
   refine lx_call (want_if (j := 10) (d := 16) (x := false) (y := false) rfl rfl (by decide) rfl) (ent_func cf_7 (argsC (t_int rfl) (argsC (t_int rfl) (argsC (t_slice rfl) args0)))) (ewithin_ct _ _ _ _ _ w5 (one_sl B3)) ?_
   rintro _ w6 E3 rfl
   have F6 := F5.ext E3
   have hz3 := E3.size
   refine lx_split (fun h3 => ?_) (fun h3 => ?_)
   ·
    refine lx_value (want_if (j := 10) (d := 16) (x := false) (y := false) rfl rfl (by decide) rfl) (rn_not rfl) ?_
    refine lx_value (want rfl) (pick_f rfl rfl) ?_
    refine lx_nil ?_
    refine wk_cond_f rfl ?_
    refine wk_skip ?_
    refine wk_seq ?_
    refine wk_region ?_
    refine lx_value (want rfl) (rn_fieldAddr fa_23_0 rfl) ?_
    refine lx_value (want rfl) (rn_load1Blk ag_3 rfl (((((B1.ext Eb2).ext E1).ext E2).ext Eb3).ext E3) rfl) ?_
    refine lx_value (want rfl) (rn_mul rfl rfl (by have h2 := of_decide_eq_true h2; omega)) ?_
    refine lx_value (want rfl) (rn_fieldAddr fa_23_1 rfl) ?_
    refine lx_value (want rfl) (rn_load1Blk ag_3 rfl (((((B1.ext Eb2).ext E1).ext E2).ext Eb3).ext E3) rfl) ?_
    refine lx_value (want rfl) (rn_add rfl rfl (by have h2 := of_decide_eq_true h2; have h3 := of_decide_eq_true h3; omega)) ?_
    refine lx_value (want rfl) (mv_int rfl) ?_
    refine lx_value (want rfl) (rn_rem rfl rfl (by have h1 := of_decide_eq_true h1; have h2 := of_decide_eq_true h2; have h3 := of_decide_eq_true h3; omega)) ?_
    refine lx_value (want rfl) (as_int rfl) ?_
    refine lx_value (want rfl) (as_int rfl) ?_
    refine lx_nil ?_
    refine wk_ret ?_
    refine retR2 Tryz.results4 (.tmp (t_int rfl)) (.tmp (t_int rfl)) F6 ?_
    first | exact home_yes (of_decide_eq_true h1) (of_decide_eq_true h2) (of_decide_eq_true h3) | exact home_no (fun g => (of_decide_eq_false h1) g.1) | exact home_no (fun g => (of_decide_eq_false h2) g.2.1) | exact home_no (fun g => (of_decide_eq_false h3) g.2.2)
   ·
    refine lx_value (want_if (j := 10) (d := 16) (x := false) (y := false) rfl rfl (by decide) rfl) (rn_not rfl) ?_
    refine lx_value (want rfl) (pick_f rfl rfl) ?_
    refine lx_nil ?_
    refine wk_cond_t rfl ?_
    refine wk_seq ?_
    refine wk_region ?_
    refine lx_value (want rfl) (as_int rfl) ?_
    refine lx_value (want rfl) (as_int rfl) ?_
    refine lx_nil ?_
    refine wk_ret ?_
    refine retR2 Tryz.results4 (.tmp (t_int rfl)) (.tmp (t_int rfl)) F6 ?_
    first | exact home_yes (of_decide_eq_true h1) (of_decide_eq_true h2) (of_decide_eq_true h3) | exact home_no (fun g => (of_decide_eq_false h1) g.1) | exact home_no (fun g => (of_decide_eq_false h2) g.2.1) | exact home_no (fun g => (of_decide_eq_false h3) g.2.2)
  ·
   refine lx_value (want_if (j := 4) (d := 10) (x := false) (y := false) rfl rfl (by decide) rfl) (rn_not rfl) ?_
   refine lx_value (want rfl) (pick_f rfl rfl) ?_
   refine lx_value (want rfl) (mv_bool rfl) ?_
   refine lx_skip (want_if (j := 10) (d := 16) (x := false) (y := true) rfl rfl (by decide) rfl) ?_
   refine lx_skip (want_if (j := 10) (d := 16) (x := false) (y := true) rfl rfl (by decide) rfl) ?_
   refine lx_skip (want_if (j := 10) (d := 16) (x := false) (y := true) rfl rfl (by decide) rfl) ?_
   refine lx_skip (want_if (j := 10) (d := 16) (x := false) (y := true) rfl rfl (by decide) rfl) ?_
   refine lx_skip (want_if (j := 10) (d := 16) (x := false) (y := true) rfl rfl (by decide) rfl) ?_
   refine lx_value (want rfl) (pick_t rfl rfl) ?_
   refine lx_nil ?_
   refine wk_cond_t rfl ?_
   refine wk_seq ?_
   refine wk_region ?_
   refine lx_value (want rfl) (as_int rfl) ?_
   refine lx_value (want rfl) (as_int rfl) ?_
   refine lx_nil ?_
   refine wk_ret ?_
   refine retR2 Tryz.results4 (.tmp (t_int rfl)) (.tmp (t_int rfl)) F4 ?_
   first | exact home_yes (of_decide_eq_true h1) (of_decide_eq_true h2) (of_decide_eq_true h3) | exact home_no (fun g => (of_decide_eq_false h1) g.1) | exact home_no (fun g => (of_decide_eq_false h2) g.2.1) | exact home_no (fun g => (of_decide_eq_false h3) g.2.2)
 ·
  refine lx_value (want rfl) (rn_not rfl) ?_
  refine lx_value (want rfl) (mv_bool rfl) ?_
  refine lx_skip (want_if (j := 4) (d := 10) (x := false) (y := true) rfl rfl (by decide) rfl) ?_
  refine lx_skip (want_if (j := 4) (d := 10) (x := false) (y := true) rfl rfl (by decide) rfl) ?_
  refine lx_skip (want_if (j := 4) (d := 10) (x := false) (y := true) rfl rfl (by decide) rfl) ?_
  refine lx_skip (want_if (j := 4) (d := 10) (x := false) (y := true) rfl rfl (by decide) rfl) ?_
  refine lx_value (want rfl) (pick_t rfl rfl) ?_
  refine lx_value (want rfl) (mv_bool rfl) ?_
  refine lx_skip (want_if (j := 10) (d := 16) (x := false) (y := true) rfl rfl (by decide) rfl) ?_
  refine lx_skip (want_if (j := 10) (d := 16) (x := false) (y := true) rfl rfl (by decide) rfl) ?_
  refine lx_skip (want_if (j := 10) (d := 16) (x := false) (y := true) rfl rfl (by decide) rfl) ?_
  refine lx_skip (want_if (j := 10) (d := 16) (x := false) (y := true) rfl rfl (by decide) rfl) ?_
  refine lx_skip (want_if (j := 10) (d := 16) (x := false) (y := true) rfl rfl (by decide) rfl) ?_
  refine lx_value (want rfl) (pick_t rfl rfl) ?_
  refine lx_nil ?_
  refine wk_cond_t rfl ?_
  refine wk_seq ?_
  refine wk_region ?_
  refine lx_value (want rfl) (as_int rfl) ?_
  refine lx_value (want rfl) (as_int rfl) ?_
  refine lx_nil ?_
  refine wk_ret ?_
  refine retR2 Tryz.results4 (.tmp (t_int rfl)) (.tmp (t_int rfl)) F3 ?_
  first | exact home_yes (of_decide_eq_true h1) (of_decide_eq_true h2) (of_decide_eq_true h3) | exact home_no (fun g => (of_decide_eq_false h1) g.1) | exact home_no (fun g => (of_decide_eq_false h2) g.2.1) | exact home_no (fun g => (of_decide_eq_false h3) g.2.2)

theorem areops_ct (SS : Sto) (sa : Option Addr) (ca : Nat) (sb : Option Addr) (cb : Nat) (F : Nat → Prop) (hsm : smallS SS = true) (at_ : Int) (hpl : placeB SS at_ = true) (l : List Vl) (s : Option Addr) (c : Nat) (G : Nat → Prop) (hO : OpsOk (codeAt SS at_) l) (hb : l.length ≤ 1000) (w0 : World) (hS : StR F w0 SS sa ca sb cb) (hl : VlS G w0 s l) :
  CT Tryz.prog 47 [.agg #[.slice sa SS.slots.length ca, .slice sb SS.code.length cb], .int .i64 at_, .slice s l.length c] w0 no (fun v _ => v = .bool true) := by
 have hcl := smallI_len (smallS_code hsm)
 have F0 := Fr.refl no w0
 refine ct_body Tryz.func47 rfl Tryz.ntmps47 (Nat.le_of_ble_eq_true rfl) ?_
 refine wk_seq ?_
 refine wk_region ?_
 refine lx_new (want rfl) (rn_box (t_agg rfl)) ?_
 intro b1 w1 hb1 Eb1 B1 hlb1
 have F1 := F0.ext Eb1
 have hzb1 := Eb1.size
 refine lx_value (want rfl) (as_bool rfl) ?_
 refine lx_nil ?_
 refine wk_seq ?_
 refine wk_seq ?_
 refine wk_region ?_
 refine lx_value (want rfl) (mv_slice rfl) ?_
 refine lx_value (want rfl) (rn_len Tryz.underlying53 rfl) ?_
 refine lx_value (want rfl) (rn_loadBlk ag_80 sz_80 rfl B1 rfl rfl) ?_
 refine lx_value (want rfl) (mv_int rfl) ?_
 refine lx_call (want rfl) (ent_func cf_25 (argsC (t_agg rfl) (argsC (t_int rfl) args0))) (eports_ct SS sa ca sb cb F hsm _ hpl w1 (hS.fr F1 (fun _ _ h => h))) ?_
 rintro _ w2 E1 rfl
 have F2 := F1.ext E1
 have hz1 := E1.size
 refine lx_value (want rfl) (rn_neq rfl rfl) ?_
 refine lx_dec_f ((fun g => g hO.n.symm)) ?_
 refine lx_nil ?_
 refine wk_cond_f rfl ?_
 refine wk_skip ?_
 refine wk_seq ?_
 refine wk_seq ?_
 refine wk_region ?_
 refine lx_value (want rfl) (mv_slice rfl) ?_
 refine lx_value (want rfl) (rn_len Tryz.underlying53 rfl) ?_
 refine lx_value (want rfl) (mv_int rfl) ?_
 refine lx_nil ?_
 refine wk_block ?_
 refine wk_loopA [6, 7, 8, 17, 18, 19, 20, 21, 22, 23, 24, 25, 26, 27, 28, 29, 30, 31, 32, 33] no (fun nM ρ w => ∃ (i : Nat), nM = l.length - i ∧ ρ 17 = .int .i64 i ∧ (i ≤ l.length)) _ ⟨0, rfl, rfl, by omega⟩ ?_
 rintro n1 ρ1 w3 A1 EL1 ⟨i, rfl, hs1_17, hi⟩
 have F3 := F2.ext EL1
 have hzL1 := EL1.size
 refine wk_seq ?_
 refine wk_region ?_
 refine lx_value (want rfl) (rn_lss hs1_17 (A1.at 16 rfl rfl)) ?_
 refine lx_dec (fun hlt => ?_) (fun hlt => ?_)
 ·
  obtain ⟨v, hv⟩ := getx hlt
  have hva := all_at hO.ok hv
  obtain ⟨bx, ox, rfl, _, hcx⟩ := hl i v hv
  refine lx_nil ?_
  refine wk_seq ?_
  refine wk_cond_t rfl ?_
  refine wk_skip ?_
  refine wk_seq ?_
  refine wk_block ?_
  refine wk_seq ?_
  refine wk_region ?_
  refine lx_value (want rfl) (mv_int hs1_17) ?_
  refine lx_value (want rfl) (rn_index _ Tryz.underlying53 sz_48 (A1.at 15 rfl rfl) hs1_17 rfl (by omega)) ?_
  refine lx_value (want rfl) (rn_load2 ag_48 sz_48 rfl (F3.cell (fun h => h) (hcx 0 _ rfl)) (F3.cell (fun h => h) (hcx 1 _ rfl))) ?_
  refine lx_new (want rfl) (rn_alloc ze_48) ?_
  intro b2 w4 hb2 Eb2 B2 hlb2
  have F4 := F3.ext Eb2
  have hzb2 := Eb2.size
  refine lx_value (want rfl) (as_int rfl) ?_
  refine lx_set (want rfl) sz_48 rfl (t_agg rfl) rfl rfl rfl B2 (Nat.le_of_ble_eq_true rfl) ?_
  intro w5 Es1 Bs1
  have F5 := F4.set Es1 (by omega)
  have hzs1 := Es1.size
  refine lx_nil ?_
  refine wk_seq ?_
  refine wk_region ?_
  refine lx_value (want rfl) (rn_loadBlk ag_48 sz_48 rfl Bs1 rfl rfl) ?_
  refine lx_call (want rfl) (ent_func cf_43 (argsC (t_agg rfl) args0)) (ishole_ct _ w5) ?_
  rintro _ w6 E2 rfl
  have F6 := F5.ext E2
  have hz2 := E2.size
  refine lx_split (fun hh => ?_) (fun hh => ?_)
  ·
   refine lx_value (want rfl) (rn_not rfl) ?_
   refine lx_value (want rfl) (mv_bool rfl) ?_
   refine lx_skip (want_if (j := 3) (d := 25) (x := true) (y := false) rfl rfl (by decide) rfl) ?_
   refine lx_skip (want_if (j := 3) (d := 25) (x := true) (y := false) rfl rfl (by decide) rfl) ?_
   refine lx_skip (want_if (j := 3) (d := 25) (x := true) (y := false) rfl rfl (by decide) rfl) ?_
   refine lx_skip (want_if (j := 3) (d := 25) (x := true) (y := false) rfl rfl (by decide) rfl) ?_
   refine lx_skip (want_if (j := 3) (d := 25) (x := true) (y := false) rfl rfl (by decide) rfl) ?_
   refine lx_skip (want_if (j := 3) (d := 25) (x := true) (y := false) rfl rfl (by decide) rfl) ?_
   refine lx_value (want rfl) (pick_f rfl rfl) ?_
   refine lx_nil ?_
   refine wk_cond_f rfl ?_
   refine wk_skip ?_
   refine wk_region ?_
   refine lx_value (want rfl) (rn_add hs1_17 rfl (by omega)) ?_
   refine lx_value (want rfl) (mv_int rfl) ?_
   refine lx_nil ?_
   exact ⟨rfl, ((((((((((((((((((((A1.up rfl _).up rfl _).up rfl _).up rfl _).up rfl _).up rfl _).none _).up rfl _).up rfl _).up rfl _).up rfl _).up rfl _).up rfl _).up rfl _).up rfl _).up rfl _).up rfl _).up rfl _).up rfl _).up rfl _), (Fr.ext (Fr.trans (Fr.ext EL1 Eb2) Es1 (fun i hi1 h => (absurd hi1 (by omega)))) E2), _, (by omega), i + 1, rfl, rfl, by omega⟩
  ·
   have hfv : fitB v = true := by rw [hh] at hva; simpa using hva
   have hna := hO.na
   refine lx_value (want rfl) (rn_not rfl) ?_
   refine lx_value (want rfl) (mv_bool rfl) ?_
   refine lx_value (want_if (j := 3) (d := 25) (x := true) (y := true) rfl rfl (by decide) rfl) (rn_loadBlk ag_80 sz_80 (A1.at 3 rfl rfl) (((((B1.ext E1).ext EL1).ext Eb2).ne Es1 (by omega)).ext E2) rfl rfl) ?_
   refine lx_value (want_if (j := 3) (d := 25) (x := true) (y := true) rfl rfl (by decide) rfl) (mv_int (A1.at 1 rfl rfl)) ?_
   refine lx_value (want_if (j := 3) (d := 25) (x := true) (y := true) rfl rfl (by decide) rfl) (mv_int rfl) ?_
   refine lx_value (want_if (j := 3) (d := 25) (x := true) (y := true) rfl rfl (by decide) rfl) (rn_loadBlk ag_48 sz_48 rfl (Bs1.ext E2) rfl rfl) ?_
   refine lx_call (want_if (j := 3) (d := 25) (x := true) (y := true) rfl rfl (by decide) rfl) (ent_func cf_70 (argsC (t_agg rfl) (argsC (t_int rfl) (argsC (t_int rfl) (argsC (t_agg rfl) args0))))) (fits_ct SS sa ca sb cb F hsm _ hpl _ _ (by assumption) (by assumption) w6 (hS.fr F6 (fun _ _ h => h))) ?_
   rintro _ w7 E3 rfl
   have F7 := F6.ext E3
   have hz3 := E3.size
   refine lx_value (want_if (j := 3) (d := 25) (x := true) (y := true) rfl rfl (by decide) rfl) (rn_not rfl) ?_
   refine lx_value (want rfl) (pick_t rfl rfl) ?_
   refine lx_nil ?_
   refine wk_cond_f rfl ?_
   refine wk_skip ?_
   refine wk_region ?_
   refine lx_value (want rfl) (rn_add hs1_17 rfl (by omega)) ?_
   refine lx_value (want rfl) (mv_int rfl) ?_
   refine lx_nil ?_
   exact ⟨rfl, ((((((((((((((((((((A1.up rfl _).up rfl _).up rfl _).up rfl _).up rfl _).up rfl _).none _).up rfl _).up rfl _).up rfl _).up rfl _).up rfl _).up rfl _).up rfl _).up rfl _).up rfl _).up rfl _).up rfl _).up rfl _).up rfl _), (Fr.ext (Fr.ext (Fr.trans (Fr.ext EL1 Eb2) Es1 (fun i hi1 h => (absurd hi1 (by omega)))) E2) E3), _, (by omega), i + 1, rfl, rfl, by omega⟩
 ·
  refine lx_nil ?_
  refine wk_seq ?_
  refine wk_cond_f rfl ?_
  refine wk_exit ?_
  refine wk_seq ?_
  refine wk_region ?_
  refine lx_value (want rfl) (as_bool rfl) ?_
  refine lx_nil ?_
  refine wk_ret ?_
  refine retR1 Tryz.results47 (.tmp (t_bool rfl)) F3 ?_
  exact rfl

theorem istok_ct (SS : Sto) (sa : Option Addr) (ca : Nat) (sb : Option Addr) (cb : Nat) (F : Nat → Prop) (hsm : smallS SS = true) (t : Tok) (hT : TokB SS t) (w0 : World) (hS : StR F w0 SS sa ca sb cb) :
  CT Tryz.prog 39 [.agg #[.slice sa SS.slots.length ca, .slice sb SS.code.length cb], .agg #[.int .i64 t.1, .int .i64 t.2.1, .int .i64 t.2.2.1, .int .u8 t.2.2.2.1, .int .i64 t.2.2.2.2]] w0 no (fun v _ => v = .int .i64 0) := by
 have hpl := hT.plc
 have htc := hT.ctx
 have htp := hT.port
 have htf := hT.fit
 have hna := hT.na
 have hcl := smallI_len (smallS_code hsm)
 have F0 := Fr.refl no w0
 refine ct_body Tryz.func39 rfl Tryz.ntmps39 (Nat.le_of_ble_eq_true rfl) ?_
 refine wk_seq ?_
 refine wk_region ?_
 refine lx_new (want rfl) (rn_box (t_agg rfl)) ?_
 intro b1 w1 hb1 Eb1 B1 hlb1
 have F1 := F0.ext Eb1
 have hzb1 := Eb1.size
 refine lx_new (want rfl) (rn_box (t_agg rfl)) ?_
 intro b2 w2 hb2 Eb2 B2 hlb2
 have F2 := F1.ext Eb2
 have hzb2 := Eb2.size
 refine lx_value (want rfl) (as_int rfl) ?_
 refine lx_nil ?_
 refine wk_seq ?_
 refine wk_block ?_
 refine wk_seq ?_
 refine wk_seq ?_
 refine wk_region ?_
 refine lx_value (want rfl) (rn_fieldAddr fa_51_0 rfl) ?_
 refine lx_value (want rfl) (rn_load1Blk ag_3 rfl B2 rfl) ?_
 refine lx_call (want rfl) (ent_func cf_8 (argsC (t_int rfl) args0)) (isctx_ct _ w2) ?_
 rintro _ w3 E1 rfl
 have F3 := F2.ext E1
 have hz1 := E1.size
 refine lx_b_t ((decide_eq_true htc)) ?_
 refine lx_value (want rfl) (rn_not rfl) ?_
 refine lx_value (want rfl) (as_bool rfl) ?_
 refine lx_nil ?_
 refine wk_cond_f rfl ?_
 refine wk_region ?_
 refine lx_value (want rfl) (rn_loadBlk ag_80 sz_80 rfl ((B1.ext Eb2).ext E1) rfl rfl) ?_
 refine lx_value (want rfl) (rn_fieldAddr fa_51_1 rfl) ?_
 refine lx_value (want rfl) (rn_load1Blk ag_3 rfl (B2.ext E1) rfl) ?_
 refine lx_call (want rfl) (ent_func cf_24 (argsC (t_agg rfl) (argsC (t_int rfl) args0))) (ispl_ct SS sa ca sb cb hcl _ w3) ?_
 rintro _ w4 E2 rfl
 have F4 := F3.ext E2
 have hz2 := E2.size
 refine lx_b_t (hpl) ?_
 refine lx_value (want rfl) (rn_not rfl) ?_
 refine lx_value (want rfl) (as_bool rfl) ?_
 refine lx_nil ?_
 refine wk_cond_f rfl ?_
 refine wk_seq ?_
 refine wk_mix 8 (fun kS => match kS with | 3 => .val (.int .i64 (portN (codeAt SS t.2.1))) | 7 => .any (fun I v w => ∃ b, v = .slice (some ⟨b, 0, none⟩) 1 1 ∧ w4.heap.size ≤ b ∧ (I.1 ≤ b ∧ b < I.2) ∧ Blk w b [.int .i64 t.2.2.1] 3) | _ => .none) (by kernel_rfl) (by kernel_rfl) (by intro kS G hk; (try dsimp only at hk); (split at hk) <;> first | (cases hk; done) | (injection hk with hk; subst hk; exact ⟨by intro j hkj I v w w' hR hG; first | exact hG | (obtain ⟨b, h1, h2, hI, h3⟩ := hG; exact ⟨b, h1, h2, hI, h3.ext hR⟩), fun ⟨_, _, _, _, hs⟩ => by (try dsimp only at hs); split at hs <;> cases hs⟩)) (by intro kS s y G hk; (try dsimp only at hk); split at hk <;> cases hk) ?_
 simp only [List.take_succ_cons, List.take_zero, List.take_nil, List.drop_succ_cons, List.drop_zero, List.drop_nil]
 refine mx_calm rfl (want rfl) (fun u1 eu1 fu1 => rn_loadBlk ag_80 sz_80 rfl ((((B1.ext Eb2).ext E1).ext E2).ext ((ext_drawn _).trans' eu1)) rfl rfl) ?_
 refine mx_calm rfl (want rfl) (fun u2 eu2 fu2 => rn_fieldAddr fa_51_1 rfl) ?_
 refine mx_calm rfl (want rfl) (fun u3 eu3 fu3 => rn_load1Blk ag_3 rfl (((B2.ext E1).ext E2).ext ((ext_drawn _).trans' eu3)) rfl) ?_
 refine mx_val rfl (want rfl) (fun u4 eu4 fu4 => do_call (ent_func cf_25 (argsC (t_agg rfl) (argsC (t_int rfl) args0))) (eports_ct SS sa ca sb cb F hsm _ hpl u4 (hS.fr (F4.ext ((ext_drawn _).trans' eu4)) (fun _ _ h => h))) (fun _ _ E h => ⟨E, h⟩)) ?_
 refine mx_calm rfl (want rfl) (fun u5 eu5 fu5 => rn_sub rfl rfl (by omega)) ?_
 refine mx_calm rfl (want rfl) (fun u6 eu6 fu6 => rn_fieldAddr fa_51_2 rfl) ?_
 refine mx_calm rfl (want rfl) (fun u7 eu7 fu7 => rn_load1Blk ag_3 rfl (((B2.ext E1).ext E2).ext ((ext_drawn _).trans' eu7)) rfl) ?_
 refine mx_any rfl rfl (want rfl) (fun u8 eu8 fu8 => (do_newS2 (rn_bslice (xs := [.tmp 22]) Tryz.underlying68 sz_3 ze_3 rfl (argsC (t_int rfl) args0) (CL.cons rfl rfl CL.nil) rfl (Nat.le_of_ble_eq_true rfl)) (show _ ≤ _ from (((ext_drawn _).trans' eu8)).size)).mono (fun v w' h => ⟨h.1, h.2⟩)) (fun I23 v23 => ?_)
 refine mx_nil (fun w5 E3' H1 HS => ?_)
 have E3 := (ext_drawn _).trans' E3'
 have F5 := F4.ext E3
 have hz3 := E3.size
 have hI23 := (HS.1 23 _ rfl).2
 simp only at hI23
 have g23 := H1 23 _ rfl
 obtain ⟨bS23, rfl, hbbS23, hibS23, hBbS23⟩ := g23
 refine lx_call (want rfl) (ent_func cf_7 (argsC (t_int rfl) (argsC (t_int rfl) (argsC (t_slice rfl) args0)))) (ewithin_ct _ _ _ _ _ w5 (one_sl hBbS23)) ?_
 rintro _ w6 E4 rfl
 have F6 := F5.ext E4
 have hz4 := E4.size
 refine lx_b_t ((decide_eq_true (by omega))) ?_
 refine lx_value (want rfl) (rn_not rfl) ?_
 refine lx_value (want rfl) (as_bool rfl) ?_
 refine lx_nil ?_
 refine wk_cond_f rfl ?_
 refine wk_seq ?_
 refine wk_region ?_
 refine lx_value (want rfl) (rn_loadBlk ag_80 sz_80 rfl (((((B1.ext Eb2).ext E1).ext E2).ext E3).ext E4) rfl rfl) ?_
 refine lx_value (want rfl) (rn_fieldAddr fa_51_1 rfl) ?_
 refine lx_value (want rfl) (rn_load1Blk ag_3 rfl ((((B2.ext E1).ext E2).ext E3).ext E4) rfl) ?_
 refine lx_value (want rfl) (rn_fieldAddr fa_51_2 rfl) ?_
 refine lx_value (want rfl) (rn_load1Blk ag_3 rfl ((((B2.ext E1).ext E2).ext E3).ext E4) rfl) ?_
 refine lx_value (want rfl) (rn_fieldAddr fa_51_3 rfl) ?_
 refine lx_value (want rfl) (rn_loadBlk ag_48 sz_48 rfl ((((B2.ext E1).ext E2).ext E3).ext E4) rfl rfl) ?_
 refine lx_call (want rfl) (ent_func cf_70 (argsC (t_agg rfl) (argsC (t_int rfl) (argsC (t_int rfl) (argsC (t_agg rfl) args0))))) (fits_ct SS sa ca sb cb F hsm _ hpl _ _ (by assumption) (by assumption) w6 (hS.fr F6 (fun _ _ h => h))) ?_
 rintro _ w7 E5 rfl
 have F7 := F6.ext E5
 have hz5 := E5.size
 refine lx_value (want rfl) (rn_not rfl) ?_
 refine lx_value (want rfl) (as_bool rfl) ?_
 refine lx_nil ?_
 refine wk_cond_f rfl ?_
 refine wk_skip ?_
 refine wk_seq ?_
 refine wk_region ?_
 refine lx_value (want rfl) (as_int rfl) ?_
 refine lx_nil ?_
 refine wk_ret ?_
 refine retR1 Tryz.results39 (.tmp (t_int rfl)) F7 ?_
 exact rfl

theorem eqslots_ct (L : List Slt) (s1 s2 : Option Addr) (c1 c2 : Nat) (Fa Fb : Nat → Prop) (hal : L.length ≤ 1000) (hsm : ∀ (i : Nat) (x : Slt), L[i]? = some x → smallD x.st = true) (w0 : World) (ha : SoS Fa w0 s1 L) (hb : SoS Fb w0 s2 L) :
  CT Tryz.prog 86 [.slice s1 L.length c1, .slice s2 L.length c2, .func (.func 87) #[] #[]] w0 no (fun v _ => v = .bool true) := by
 have F0 := Fr.refl no w0
 refine ct_body Tryz.func86 rfl Tryz.ntmps86 (Nat.le_of_ble_eq_true rfl) ?_
 refine wk_seq ?_
 refine wk_region ?_
 refine lx_value (want rfl) (as_bool rfl) ?_
 refine lx_nil ?_
 refine wk_seq ?_
 refine wk_seq ?_
 refine wk_region ?_
 refine lx_value (want rfl) (mv_slice rfl) ?_
 refine lx_value (want rfl) (rn_len Tryz.underlying32 rfl) ?_
 refine lx_value (want rfl) (mv_slice rfl) ?_
 refine lx_value (want rfl) (rn_len Tryz.underlying32 rfl) ?_
 refine lx_value (want rfl) (rn_neq rfl rfl) ?_
 refine lx_dec_f ((fun g => g rfl)) ?_
 refine lx_nil ?_
 refine wk_cond_f rfl ?_
 refine wk_skip ?_
 refine wk_seq ?_
 refine wk_seq ?_
 refine wk_region ?_
 refine lx_value (want rfl) (mv_slice rfl) ?_
 refine lx_value (want rfl) (rn_len Tryz.underlying32 rfl) ?_
 refine lx_value (want rfl) (mv_int rfl) ?_
 refine lx_nil ?_
 refine wk_block ?_
 refine wk_loopA [6, 7, 8, 9, 17, 18, 19, 20, 21, 22, 23, 24, 25, 26, 27, 28, 29, 30, 31] no (fun nM ρ w => ∃ (i : Nat), nM = L.length - i ∧ ρ 17 = .int .i64 i ∧ (i ≤ L.length)) _ ⟨0, rfl, rfl, by omega⟩ ?_
 rintro n1 ρ1 w1 A1 EL1 ⟨i, rfl, hs1_17, hi⟩
 have F1 := F0.ext EL1
 have hzL1 := EL1.size
 refine wk_seq ?_
 refine wk_region ?_
 refine lx_value (want rfl) (rn_lss hs1_17 (A1.at 16 rfl rfl)) ?_
 refine lx_dec (fun hlt => ?_) (fun hlt => ?_)
 ·
  obtain ⟨x, hx⟩ := getx hlt
  obtain ⟨bx, ox, hsx, _, sx, cx, hcx, hdx⟩ := ha i x hx
  subst hsx
  obtain ⟨by_, oy, hsy, _, sy, cy, hcy, hdy⟩ := hb i x hx
  subst hsy
  refine lx_nil ?_
  refine wk_seq ?_
  refine wk_cond_t rfl ?_
  refine wk_skip ?_
  refine wk_seq ?_
  refine wk_block ?_
  refine wk_seq ?_
  refine wk_region ?_
  refine lx_value (want rfl) (mv_int hs1_17) ?_
  refine lx_value (want rfl) (rn_index _ Tryz.underlying32 sz_78 (A1.at 15 rfl rfl) hs1_17 rfl (by omega)) ?_
  refine lx_value (want rfl) (rn_loadN ag_78 sz_78 rfl rfl (hcx.fr F1 (fun h => h))) ?_
  refine lx_new (want rfl) (rn_alloc ze_78) ?_
  intro b1 w2 hb1 Eb1 B1 hlb1
  have F2 := F1.ext Eb1
  have hzb1 := Eb1.size
  refine lx_value (want rfl) (as_int rfl) ?_
  refine lx_set (want rfl) sz_78 rfl (t_agg rfl) rfl rfl rfl B1 (Nat.le_of_ble_eq_true rfl) ?_
  intro w3 Es1 Bs1
  have F3 := F2.set Es1 (by omega)
  have hzs1 := Es1.size
  refine lx_nil ?_
  refine wk_seq ?_
  refine wk_region ?_
  refine lx_value (want rfl) (mv_slice (A1.at 1 rfl rfl)) ?_
  refine lx_value (want rfl) (mv_int rfl) ?_
  refine lx_value (want rfl) (rn_index _ Tryz.underlying32 sz_78 rfl rfl rfl (by omega)) ?_
  refine lx_value (want rfl) (rn_loadN ag_78 sz_78 rfl rfl (hcy.fr F3 (fun h => h))) ?_
  refine lx_new (want rfl) (rn_alloc ze_78) ?_
  intro b2 w4 hb2 Eb2 B2 hlb2
  have F4 := F3.ext Eb2
  have hzb2 := Eb2.size
  refine lx_set (want rfl) sz_78 rfl (t_agg rfl) rfl rfl rfl B2 (Nat.le_of_ble_eq_true rfl) ?_
  intro w5 Es2 Bs2
  have F5 := F4.set Es2 (by omega)
  have hzs2 := Es2.size
  refine lx_nil ?_
  refine wk_seq ?_
  refine wk_region ?_
  refine lx_value (want rfl) (mv_func (A1.at 2 rfl rfl)) ?_
  refine lx_value (want rfl) (rn_loadBlk ag_78 sz_78 rfl ((Bs1.ext Eb2).ne Es2 (by omega)) rfl rfl) ?_
  refine lx_value (want rfl) (rn_loadBlk ag_78 sz_78 rfl Bs2 rfl rfl) ?_
  refine lx_call (want rfl) (ent_value cf_87 rfl (argsC (t_agg rfl) (argsC (t_agg rfl) args0))) (sameslot_ct x sx sy cx cy Fa Fb (hsm i x hx) w5 (hdx.fr (dd_stab _) F5 (fun _ _ h => h)) (hdy.fr (dd_stab _) F5 (fun _ _ h => h))) ?_
  rintro _ w6 E1 rfl
  have F6 := F5.ext E1
  have hz1 := E1.size
  refine lx_value (want rfl) (rn_not rfl) ?_
  refine lx_nil ?_
  refine wk_cond_f rfl ?_
  refine wk_skip ?_
  refine wk_region ?_
  refine lx_value (want rfl) (rn_add hs1_17 rfl (by omega)) ?_
  refine lx_value (want rfl) (mv_int rfl) ?_
  refine lx_nil ?_
  exact ⟨rfl, ((((((((((((((((((((A1.up rfl _).up rfl _).up rfl _).up rfl _).up rfl _).up rfl _).none _).up rfl _).up rfl _).up rfl _).up rfl _).up rfl _).none _).up rfl _).up rfl _).up rfl _).up rfl _).up rfl _).up rfl _).up rfl _), (Fr.ext (Fr.trans (Fr.ext (Fr.trans (Fr.ext EL1 Eb1) Es1 (fun i hi1 h => (absurd hi1 (by omega)))) Eb2) Es2 (fun i hi1 h => (absurd hi1 (by omega)))) E1), _, (by omega), i + 1, rfl, rfl, by omega⟩
 ·
  refine lx_nil ?_
  refine wk_seq ?_
  refine wk_cond_f rfl ?_
  refine wk_exit ?_
  refine wk_seq ?_
  refine wk_region ?_
  refine lx_value (want rfl) (as_bool rfl) ?_
  refine lx_nil ?_
  refine wk_ret ?_
  refine retR1 Tryz.results86 (.tmp (t_bool rfl)) F1 ?_
  exact rfl

theorem eqins_ct (L : List Ins) (s1 s2 : Option Addr) (c1 c2 : Nat) (Fa Fb : Nat → Prop) (hal : L.length ≤ 1000) (hsm : ∀ (i : Nat) (x : Ins), L[i]? = some x → smallD x.outs = true) (w0 : World) (ha : InS Fa w0 s1 L) (hb : InS Fb w0 s2 L) :
  CT Tryz.prog 88 [.slice s1 L.length c1, .slice s2 L.length c2, .func (.func 89) #[] #[]] w0 no (fun v _ => v = .bool true) := by
 have F0 := Fr.refl no w0
 refine ct_body Tryz.func88 rfl Tryz.ntmps88 (Nat.le_of_ble_eq_true rfl) ?_
 refine wk_seq ?_
 refine wk_region ?_
 refine lx_value (want rfl) (as_bool rfl) ?_
 refine lx_nil ?_
 refine wk_seq ?_
 refine wk_seq ?_
 refine wk_region ?_
 refine lx_value (want rfl) (mv_slice rfl) ?_
 refine lx_value (want rfl) (rn_len Tryz.underlying33 rfl) ?_
 refine lx_value (want rfl) (mv_slice rfl) ?_
 refine lx_value (want rfl) (rn_len Tryz.underlying33 rfl) ?_
 refine lx_value (want rfl) (rn_neq rfl rfl) ?_
 refine lx_dec_f ((fun g => g rfl)) ?_
 refine lx_nil ?_
 refine wk_cond_f rfl ?_
 refine wk_skip ?_
 refine wk_seq ?_
 refine wk_seq ?_
 refine wk_region ?_
 refine lx_value (want rfl) (mv_slice rfl) ?_
 refine lx_value (want rfl) (rn_len Tryz.underlying33 rfl) ?_
 refine lx_value (want rfl) (mv_int rfl) ?_
 refine lx_nil ?_
 refine wk_block ?_
 refine wk_loopA [6, 7, 8, 9, 17, 18, 19, 20, 21, 22, 23, 24, 25, 26, 27, 28, 29, 30, 31] no (fun nM ρ w => ∃ (i : Nat), nM = L.length - i ∧ ρ 17 = .int .i64 i ∧ (i ≤ L.length)) _ ⟨0, rfl, rfl, by omega⟩ ?_
 rintro n1 ρ1 w1 A1 EL1 ⟨i, rfl, hs1_17, hi⟩
 have F1 := F0.ext EL1
 have hzL1 := EL1.size
 refine wk_seq ?_
 refine wk_region ?_
 refine lx_value (want rfl) (rn_lss hs1_17 (A1.at 16 rfl rfl)) ?_
 refine lx_dec (fun hlt => ?_) (fun hlt => ?_)
 ·
  obtain ⟨x, hx⟩ := getx hlt
  obtain ⟨bx, ox, hsx, _, sx, cx, hcx, hdx⟩ := ha i x hx
  subst hsx
  obtain ⟨by_, oy, hsy, _, sy, cy, hcy, hdy⟩ := hb i x hx
  subst hsy
  refine lx_nil ?_
  refine wk_seq ?_
  refine wk_cond_t rfl ?_
  refine wk_skip ?_
  refine wk_seq ?_
  refine wk_block ?_
  refine wk_seq ?_
  refine wk_region ?_
  refine lx_value (want rfl) (mv_int hs1_17) ?_
  refine lx_value (want rfl) (rn_index _ Tryz.underlying33 sz_73 (A1.at 15 rfl rfl) hs1_17 rfl (by omega)) ?_
  refine lx_value (want rfl) (rn_loadN ag_73 sz_73 rfl rfl (hcx.fr F1 (fun h => h))) ?_
  refine lx_new (want rfl) (rn_alloc ze_73) ?_
  intro b1 w2 hb1 Eb1 B1 hlb1
  have F2 := F1.ext Eb1
  have hzb1 := Eb1.size
  refine lx_value (want rfl) (as_int rfl) ?_
  refine lx_set (want rfl) sz_73 rfl (t_agg rfl) rfl rfl rfl B1 (Nat.le_of_ble_eq_true rfl) ?_
  intro w3 Es1 Bs1
  have F3 := F2.set Es1 (by omega)
  have hzs1 := Es1.size
  refine lx_nil ?_
  refine wk_seq ?_
  refine wk_region ?_
  refine lx_value (want rfl) (mv_slice (A1.at 1 rfl rfl)) ?_
  refine lx_value (want rfl) (mv_int rfl) ?_
  refine lx_value (want rfl) (rn_index _ Tryz.underlying33 sz_73 rfl rfl rfl (by omega)) ?_
  refine lx_value (want rfl) (rn_loadN ag_73 sz_73 rfl rfl (hcy.fr F3 (fun h => h))) ?_
  refine lx_new (want rfl) (rn_alloc ze_73) ?_
  intro b2 w4 hb2 Eb2 B2 hlb2
  have F4 := F3.ext Eb2
  have hzb2 := Eb2.size
  refine lx_set (want rfl) sz_73 rfl (t_agg rfl) rfl rfl rfl B2 (Nat.le_of_ble_eq_true rfl) ?_
  intro w5 Es2 Bs2
  have F5 := F4.set Es2 (by omega)
  have hzs2 := Es2.size
  refine lx_nil ?_
  refine wk_seq ?_
  refine wk_region ?_
  refine lx_value (want rfl) (mv_func (A1.at 2 rfl rfl)) ?_
  refine lx_value (want rfl) (rn_loadBlk ag_73 sz_73 rfl ((Bs1.ext Eb2).ne Es2 (by omega)) rfl rfl) ?_
  refine lx_value (want rfl) (rn_loadBlk ag_73 sz_73 rfl Bs2 rfl rfl) ?_
  refine lx_call (want rfl) (ent_value cf_89 rfl (argsC (t_agg rfl) (argsC (t_agg rfl) args0))) (sameins_ct x sx sy cx cy Fa Fb (hsm i x hx) w5 (hdx.fr (dd_stab _) F5 (fun _ _ h => h)) (hdy.fr (dd_stab _) F5 (fun _ _ h => h))) ?_
  rintro _ w6 E1 rfl
  have F6 := F5.ext E1
  have hz1 := E1.size
  refine lx_value (want rfl) (rn_not rfl) ?_
  refine lx_nil ?_
  refine wk_cond_f rfl ?_
  refine wk_skip ?_
  refine wk_region ?_
  refine lx_value (want rfl) (rn_add hs1_17 rfl (by omega)) ?_
  refine lx_value (want rfl) (mv_int rfl) ?_
  refine lx_nil ?_
  exact ⟨rfl, ((((((((((((((((((((A1.up rfl _).up rfl _).up rfl _).up rfl _).up rfl _).up rfl _).none _).up rfl _).up rfl _).up rfl _).up rfl _).up rfl _).none _).up rfl _).up rfl _).up rfl _).up rfl _).up rfl _).up rfl _).up rfl _), (Fr.ext (Fr.trans (Fr.ext (Fr.trans (Fr.ext EL1 Eb1) Es1 (fun i hi1 h => (absurd hi1 (by omega)))) Eb2) Es2 (fun i hi1 h => (absurd hi1 (by omega)))) E1), _, (by omega), i + 1, rfl, rfl, by omega⟩
 ·
  refine lx_nil ?_
  refine wk_seq ?_
  refine wk_cond_f rfl ?_
  refine wk_exit ?_
  refine wk_seq ?_
  refine wk_region ?_
  refine lx_value (want rfl) (as_bool rfl) ?_
  refine lx_nil ?_
  refine wk_ret ?_
  refine retR1 Tryz.results88 (.tmp (t_bool rfl)) F1 ?_
  exact rfl

theorem issent1_ct (SS : Sto) (sa : Option Addr) (ca : Nat) (sb : Option Addr) (cb : Nat) (F : Nat → Prop) (hsm : smallS SS = true) (t : Tok) (ht : sentB SS t = true) (bq : Nat) (w0 : World) (hS : StR F w0 SS sa ca sb cb) (hq : Blk w0 bq [.slice sa SS.slots.length ca, .slice sb SS.code.length cb] 80) :
  CT Tryz.prog 82 [.agg #[.int .i64 t.1, .int .i64 t.2.1, .int .i64 t.2.2.1, .int .u8 t.2.2.2.1, .int .i64 t.2.2.2.2], .pointer (some ⟨bq, 0, none⟩)] w0 no (fun v _ => v = .bool true) := by
 obtain ⟨hpl, hft, hna⟩ := sentB_parts ht
 have F0 := Fr.refl no w0
 refine ct_body Tryz.func82 rfl Tryz.ntmps82 (Nat.le_of_ble_eq_true rfl) ?_
 refine wk_seq ?_
 refine wk_region ?_
 refine lx_new (want rfl) (rn_box (t_agg rfl)) ?_
 intro b21 w1 hb21 Eb21 B21 hlb21
 have F1 := F0.ext Eb21
 have hzb21 := Eb21.size
 refine lx_value (want rfl) (as_bool rfl) ?_
 refine lx_nil ?_
 refine wk_seq ?_
 refine wk_region ?_
 refine lx_value (want rfl) (rn_loadBlk ag_80 sz_80 rfl (hq.ext Eb21) rfl rfl) ?_
 refine lx_value (want rfl) (rn_fieldAddr fa_51_1 rfl) ?_
 refine lx_value (want rfl) (rn_load1Blk ag_3 rfl B21 rfl) ?_
 refine lx_value (want rfl) (rn_fieldAddr fa_51_2 rfl) ?_
 refine lx_value (want rfl) (rn_load1Blk ag_3 rfl B21 rfl) ?_
 refine lx_value (want rfl) (rn_fieldAddr fa_51_3 rfl) ?_
 refine lx_value (want rfl) (rn_loadBlk ag_48 sz_48 rfl B21 rfl rfl) ?_
 refine lx_call (want rfl) (ent_func cf_70 (argsC (t_agg rfl) (argsC (t_int rfl) (argsC (t_int rfl) (argsC (t_agg rfl) args0))))) (fits_ct SS sa ca sb cb F hsm _ hpl _ _ (by assumption) (by assumption) w1 (hS.fr F1 (fun _ _ h => h))) ?_
 rintro _ w2 E1 rfl
 have F2 := F1.ext E1
 have hz1 := E1.size
 refine lx_value (want rfl) (as_bool rfl) ?_
 refine lx_nil ?_
 refine wk_ret ?_
 refine retR1 Tryz.results82 (.tmp (t_bool rfl)) F2 ?_
 exact rfl

end Go.Proofs.YtgnnegfnpgnbbaaGreatDoor

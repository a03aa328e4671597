/- What functions compute: segments. -/
import Derived.Test.YtgnnegfnpgnbbaaGreatDoorHomesFacts
import Derived.Test.YtgnnegfnpgnbbaaGreatDoorHomesPre
import Derived.Test.YtgnnegfnpgnbbaaGreatDoorHomesWalk3
import Derived.Test.YtgnnegfnpgnbbaaGreatDoorHomesWalk4
set_option maxRecDepth 100000
set_option linter.unusedVariables false
set_option linter.unusedSimpArgs false
namespace Go.Proofs.YtgnnegfnpgnbbaaGreatDoor
open Go Go.RowKit Go.Mix Go.Eng
set_option maxHeartbeats 2000000 in
set_option maxRecDepth 100000 in
theorem segments_ct (SS : Sto) (sa : Option Addr) (ca : Nat) (sb : Option Addr) (cb : Nat) (F : Nat → Prop) (hsm : smallS SS = true) (hok : segOk SS = true) (w0 : World) (hS : StR F w0 SS sa ca sb cb) :
  CT Tryz.prog 83 [.agg #[.slice sa SS.slots.length ca, .slice sb SS.code.length cb]] w0 no (fun v w => ∃ s c, v = .tuple #[.slice s (segsL SS).length c, .bool true] ∧ SgS (Iv w0.heap.size w.heap.size) w s (segsL SS)) := by
 have hsl := smallS_len hsm
 have hcl := smallI_len (smallS_code hsm)
 have hroom := hS.room
 have F0 := Fr.refl no w0
 refine ct_body Tryz.func83 rfl Tryz.ntmps83 (Nat.le_of_ble_eq_true rfl) ?_
 refine wk_seq ?_
 refine wk_region ?_
 refine lx_new (want rfl) (rn_box (t_agg rfl)) ?_
 intro b1 w1 hb1 Eb1 B1 hlb1
 have F1 := F0.ext Eb1
 have hzb1 := Eb1.size
 refine lx_value (want rfl) (as_slice rfl) ?_
 have hn1 := HZ.nil (α := Sg) qg_s w1
 have hn1i := fun (k : Nat) (hk : zz zn (fun _ => False) k) => (hk.elim : zz none (fun _ => False) k ∨ w1.heap.size ≤ k)
 have tg2 : ∀ k, zz zn (fun _ => False) k → w0.heap.size ≤ k := fun k hk => (hn1i k hk).elim ((fun _ h => zz_nil h) k) (fun h => by omega)
 have tn2_1 : ∀ k, zz zn (fun _ => False) k → k ≠ b1 := fun k hk => (hn1i k hk).elim ((fun _ h => zz_nil h) k) (fun h => by have := (B1).lt; omega)
 have ts2_1 : ∀ k, zz zn (fun _ => False) k → ob none k → False := fun k hk h2 => (hn1i k hk).elim (fun h => (fun _ h _ => zz_nil h) k h h2) (fun h => by have := ((OwnS.nil w1 181 4)).lt h2; omega)
 refine lx_value (want rfl) (as_bool rfl) ?_
 refine lx_nil ?_
 refine wk_seq ?_
 refine wk_seq ?_
 refine wk_region ?_
 refine lx_value (want rfl) (rn_fieldAddr fa_35_0 rfl) ?_
 refine lx_value (want rfl) (rn_load1Blk ag_32 rfl B1 rfl) ?_
 refine lx_value (want rfl) (rn_len Tryz.underlying32 rfl) ?_
 refine lx_value (want rfl) (mv_int rfl) ?_
 refine lx_nil ?_
 refine wk_block ?_
 refine wk_loopA [2, 3, 5, 6, 8, 9, 13, 14, 15, 16, 17, 18, 19, 20, 21, 22, 23, 24, 25, 26, 27, 28, 29, 30, 31, 32, 33, 34, 35, 36, 37, 38, 39, 40, 41, 42, 43, 44, 45, 46, 47, 48, 49, 50, 51, 52, 53, 54, 55, 56, 57, 58, 59, 60, 61, 62, 63, 64, 65, 66, 67, 68, 69, 70, 71, 72, 73, 74, 75, 76, 77, 78, 79, 80, 81, 82, 83, 84, 85, 86, 87, 88, 89, 90, 91, 92, 93, 94, 95, 96, 97, 98, 99, 100, 101, 102, 103, 104, 105, 106, 107, 108, 109, 110, 111, 112, 113, 114, 115, 116, 117] (fun j => no j ∨ w0.heap.size ≤ j) (fun nM ρ w => ∃ (i : Nat) (us : List Value) (so1_1 : Option Addr) (co1_1 : Nat) (TT1_1 : Nat → Prop), nM = SS.slots.length - i ∧ ρ 13 = .int .i64 i ∧ Blk w b1 (cellsOf B1) 35 ∧ ρ 2 = .slice so1_1 (i) co1_1 ∧ OwnS w 181 4 so1_1 (i) co1_1 (us) ∧ (∀ k, ob so1_1 k → w0.heap.size ≤ k) ∧ (∀ k, ob so1_1 k → k ≠ b1) ∧ HZ 4 QG TT1_1 w us ((SS.slots.take i).map (segG SS)) ∧ (∀ k, zz zn TT1_1 k → w0.heap.size ≤ k) ∧ (∀ k, zz zn TT1_1 k → k ≠ b1) ∧ (∀ k, zz zn TT1_1 k → ob so1_1 k → False) ∧ (i ≤ SS.slots.length)) _ ⟨0, [], none, 0, (fun _ => False), rfl, rfl, B1, rfl, (OwnS.nil w1 181 4), (fun _ h => ob_none h), (fun _ h => ob_none h), hn1, tg2, tn2_1, ts2_1, by omega⟩ ?_
 rintro n1 ρ1 w2 A1 EL1 ⟨i, us, so1_1, co1_1, TT1_1, rfl, hs1_13, BL1_1, ho1_1, ow1L_1, ge1L_1, ne1L_1_1, tw1L_1, tg1L_1, tn1L_1_1, ts1L_1_1, hi⟩
 have F2 := F1.wide EL1
 have hzL1 := EL1.size
 refine wk_seq ?_
 refine wk_region ?_
 refine lx_value (want rfl) (rn_lss hs1_13 (A1.at 12 rfl rfl)) ?_
 refine lx_dec (fun hlt => ?_) (fun hlt => ?_)
 ·
  obtain ⟨x, hx⟩ := getx hlt
  obtain ⟨hbs, hlp, hbx⟩ := segOk_slot hok hx
  have hxs := smallS_at hsm hx
  obtain ⟨bx, ox, hsx, _, ss, cs, hcx, hst⟩ := hS.slots i x hx
  subst hsx
  refine lx_nil ?_
  refine wk_seq ?_
  refine wk_cond_t rfl ?_
  refine wk_skip ?_
  refine wk_seq ?_
  refine wk_block ?_
  refine wk_seq ?_
  refine wk_region ?_
  refine lx_value (want rfl) (rn_index _ Tryz.underlying32 sz_78 (A1.at 11 rfl rfl) hs1_13 rfl (by omega)) ?_
  refine lx_value (want rfl) (rn_loadN ag_78 sz_78 rfl rfl (hcx.fr F2 (fun h => h))) ?_
  refine lx_new (want rfl) (rn_alloc ze_78) ?_
  intro b2 w3 hb2 Eb2 B2 hlb2
  have F3 := F2.ext Eb2
  have hzb2 := Eb2.size
  have nb1 : ∀ k, ob so1_1 k → k ≠ b2 := fun k hk => by have := (ow1L_1).lt hk; omega
  have nb2 : ∀ k, zz zn TT1_1 k → k ≠ b2 := fun k hk => by have := (tw1L_1).lt hk; omega
  refine lx_set (want rfl) sz_78 rfl (t_agg rfl) rfl rfl rfl B2 (Nat.le_of_ble_eq_true rfl) ?_
  intro w4 Es1 Bs1
  have F4 := F3.set Es1 (by omega)
  have hzs1 := Es1.size
  refine lx_nil ?_
  refine wk_seq ?_
  refine wk_seq ?_
  refine wk_region ?_
  refine lx_value (want rfl) (rn_fieldAddr fa_78_1 rfl) ?_
  refine lx_value (want rfl) (rn_load1Blk ag_3 rfl Bs1 rfl) ?_
  refine lx_value (want rfl) (rn_lss rfl rfl) ?_
  refine lx_dec_f ((by omega)) ?_
  refine lx_value (want rfl) (mv_bool rfl) ?_
  refine lx_value (want_if (j := 3) (d := 20) (x := false) (y := false) rfl rfl (by decide) rfl) (rn_fieldAddr fa_78_2 rfl) ?_
  refine lx_value (want_if (j := 3) (d := 20) (x := false) (y := false) rfl rfl (by decide) rfl) (rn_load1Blk ag_3 rfl Bs1 rfl) ?_
  refine lx_value (want_if (j := 3) (d := 20) (x := false) (y := false) rfl rfl (by decide) rfl) (rn_lss rfl rfl) ?_
  refine lx_dec_f ((by omega)) ?_
  refine lx_value (want rfl) (pick_f rfl rfl) ?_
  refine lx_value (want rfl) (mv_bool rfl) ?_
  refine lx_value (want_if (j := 8) (d := 25) (x := false) (y := false) rfl rfl (by decide) rfl) (rn_fieldAddr fa_78_1 rfl) ?_
  refine lx_value (want_if (j := 8) (d := 25) (x := false) (y := false) rfl rfl (by decide) rfl) (rn_load1Blk ag_3 rfl Bs1 rfl) ?_
  refine lx_value (want_if (j := 8) (d := 25) (x := false) (y := false) rfl rfl (by decide) rfl) (rn_fieldAddr fa_35_1 (A1.at 1 rfl rfl)) ?_
  refine lx_value (want_if (j := 8) (d := 25) (x := false) (y := false) rfl rfl (by decide) rfl) (rn_load1Blk ag_33 rfl ((BL1_1.ext Eb2).ne Es1 (by omega)) rfl) ?_
  refine lx_value (want_if (j := 8) (d := 25) (x := false) (y := false) rfl rfl (by decide) rfl) (rn_len Tryz.underlying33 rfl) ?_
  refine lx_value (want_if (j := 8) (d := 25) (x := false) (y := false) rfl rfl (by decide) rfl) (rn_gtr rfl rfl) ?_
  refine lx_dec_f ((by omega)) ?_
  refine lx_value (want rfl) (pick_f rfl rfl) ?_
  refine lx_value (want rfl) (mv_bool rfl) ?_
  refine lx_value (want_if (j := 16) (d := 33) (x := false) (y := false) rfl rfl (by decide) rfl) (rn_fieldAddr fa_78_2 rfl) ?_
  refine lx_value (want_if (j := 16) (d := 33) (x := false) (y := false) rfl rfl (by decide) rfl) (rn_load1Blk ag_3 rfl Bs1 rfl) ?_
  refine lx_value (want_if (j := 16) (d := 33) (x := false) (y := false) rfl rfl (by decide) rfl) (rn_fieldAddr fa_35_1 (A1.at 1 rfl rfl)) ?_
  refine lx_value (want_if (j := 16) (d := 33) (x := false) (y := false) rfl rfl (by decide) rfl) (rn_load1Blk ag_33 rfl ((BL1_1.ext Eb2).ne Es1 (by omega)) rfl) ?_
  refine lx_value (want_if (j := 16) (d := 33) (x := false) (y := false) rfl rfl (by decide) rfl) (rn_len Tryz.underlying33 rfl) ?_
  refine lx_value (want_if (j := 16) (d := 33) (x := false) (y := false) rfl rfl (by decide) rfl) (rn_fieldAddr fa_78_1 rfl) ?_
  refine lx_value (want_if (j := 16) (d := 33) (x := false) (y := false) rfl rfl (by decide) rfl) (rn_load1Blk ag_3 rfl Bs1 rfl) ?_
  refine lx_value (want_if (j := 16) (d := 33) (x := false) (y := false) rfl rfl (by decide) rfl) (rn_sub rfl rfl (by omega)) ?_
  refine lx_value (want_if (j := 16) (d := 33) (x := false) (y := false) rfl rfl (by decide) rfl) (rn_gtr rfl rfl) ?_
  refine lx_dec_f ((by omega)) ?_
  refine lx_value (want rfl) (pick_f rfl rfl) ?_
  refine lx_nil ?_
  refine wk_cond_f rfl ?_
  refine wk_skip ?_
  refine wk_seq ?_
  refine wk_mix 12 (fun kS => match kS with | 9 => .any (fun I v w => w4.heap.size ≤ I.1 ∧ ∃ s c, v = .slice s (mvL (-(x.base : Int)) x.st).length c ∧ DdS (Iv I.1 I.2) w s (mvL (-(x.base : Int)) x.st)) | 11 => .any (fun I v w => ∃ b, v = .pointer (some ⟨b, 0, none⟩) ∧ w4.heap.size ≤ b ∧ (I.1 ≤ b ∧ b < I.2) ∧ Blk w b [.string ⟨#[]⟩, .int .i64 0, .slice none 0 0, .slice none 0 0] 181) | _ => .none) (by kernel_rfl) (by kernel_rfl) (by intro kS G hk; (try dsimp only at hk); (split at hk) <;> first | (cases hk; done) | (injection hk with hk; subst hk; exact ⟨by intro j hkj I v w w' hR hG; first | exact hG | (obtain ⟨h0, s, c, h1, h2⟩ := hG; exact ⟨h0, s, c, h1, h2.ext (dd_stab _) hR⟩) | (obtain ⟨b, h1, h2, hI, h3⟩ := hG; exact ⟨b, h1, h2, hI, h3.ext hR⟩), fun ⟨_, _, _, _, hs⟩ => by (try dsimp only at hs); split at hs <;> cases hs⟩)) (by intro kS s y G hk; (try dsimp only at hk); split at hk <;> cases hk) ?_
  simp only [List.take_succ_cons, List.take_zero, List.take_nil, List.drop_succ_cons, List.drop_zero, List.drop_nil]
  refine mx_calm rfl (want rfl) (fun u1 eu1 fu1 => rn_fieldAddr fa_78_0 rfl) ?_
  refine mx_calm rfl (want rfl) (fun u2 eu2 fu2 => rn_load1Blk ag_9 rfl (Bs1.ext ((ext_drawn _).trans' eu2)) rfl) ?_
  refine mx_calm rfl (want rfl) (fun u3 eu3 fu3 => rn_fieldAddr fa_78_3 rfl) ?_
  refine mx_calm rfl (want rfl) (fun u4 eu4 fu4 => rn_load1Blk ag_3 rfl (Bs1.ext ((ext_drawn _).trans' eu4)) rfl) ?_
  refine mx_calm rfl (want rfl) (fun u5 eu5 fu5 => rn_fieldAddr fa_78_5 rfl) ?_
  refine mx_calm rfl (want rfl) (fun u6 eu6 fu6 => rn_load1Blk ag_71 rfl (Bs1.ext ((ext_drawn _).trans' eu6)) rfl) ?_
  refine mx_calm rfl (want rfl) (fun u7 eu7 fu7 => rn_fieldAddr fa_78_1 rfl) ?_
  refine mx_calm rfl (want rfl) (fun u8 eu8 fu8 => rn_load1Blk ag_3 rfl (Bs1.ext ((ext_drawn _).trans' eu8)) rfl) ?_
  refine mx_calm rfl (want rfl) (fun u9 eu9 fu9 => rn_neg rfl (by omega)) ?_
  refine mx_any rfl rfl (want rfl) (fun u10 eu10 fu10 => do_call (ent_func cf_120 (argsC (t_slice rfl) (argsC (t_int rfl) args0))) (copied_ct x.st ss cs F (-(x.base : Int)) (by omega) hxs.1 hbx u10 (hst.fr (dd_stab F) (F4.ext ((ext_drawn _).trans' eu10)) (fun _ _ h => h))) (fun v w' E h => ⟨E, ⟨(((ext_drawn _).trans' eu10)).size, h⟩⟩)) (fun I53 v53 => ?_)
  refine mx_calm (v := .agg #[.string x.nm, .int .i64 (x.ex : Nat), .slice (sOf v53) (mvL (-(x.base : Int)) x.st).length (cOf v53), .slice none 0 0]) rfl (want rfl) (fun u11 eu11 fu11 => by obtain ⟨_, s53, c53, rfl, _⟩ := fu11 53 _ rfl (show (53 : Nat) ∈ _ from by decide); exact rn_build3 (t_string rfl) (t_int rfl) (t_slice rfl) (fun w => bd_181_0_1_2 _ _ _ _ _ w)) ?_
  refine mx_any rfl rfl (want rfl) (fun u12 eu12 fu12 => (do_new2 (rn_alloc ze_181) (show _ ≤ _ from (((ext_drawn _).trans' eu12)).size)).mono (fun v w' h => ⟨h.1, h.2⟩)) (fun I6 v6 => ?_)
  refine mx_nil (fun w5 E1' H1 HS => ?_)
  have E1 := (ext_drawn _).trans' E1'
  have F5 := F4.ext E1
  have hz1 := E1.size
  have hI6 := (HS.1 6 _ rfl).2
  have hI53 := (HS.1 53 _ rfl).2
  have hX6_53 := HS.2 6 _ 53 _ rfl rfl (show (6 : Nat) ≠ 53 from by decide)
  simp only at hI6
  simp only at hI53
  simp only at hX6_53
  have g6 := H1 6 _ rfl
  (try dsimp only at g6); obtain ⟨b86, hv6, hbb86, hib86, Bb86⟩ := g6; subst hv6; have hlbb86 := Bb86.lt
  have nb3 : ∀ k, ob so1_1 k → k ≠ b86 := fun k hk => by have := (ow1L_1).lt hk; omega
  have nb4 : ∀ k, zz zn TT1_1 k → k ≠ b86 := fun k hk => by have := (tw1L_1).lt hk; omega
  have g53 := H1 53 _ rfl
  obtain ⟨hlo53, ssN, csN, rfl, hDN⟩ := g53
  have hdz53 : DZ (Iv I53.1 I53.2) w5 ssN (mvL (-(x.base : Int)) x.st) := ⟨hDN, fun k hk => by have h9 := hk.2; omega⟩
  have hinc53 := fun (k : Nat) (hk : zz zn (Iv I53.1 I53.2) k) => (Or.inr (by have h9 : I53.1 ≤ k := hk.1; omega) : zz none (fun _ => False) k ∨ w4.heap.size ≤ k)
  have tg4 : ∀ k, zz zn (Iv I53.1 I53.2) k → w0.heap.size ≤ k := fun k hk => (hinc53 k hk).elim ((fun _ h => zz_nil h) k) (fun h => by omega)
  have tn4_1 : ∀ k, zz zn (Iv I53.1 I53.2) k → k ≠ b1 := fun k hk => (hinc53 k hk).elim ((fun _ h => zz_nil h) k) (fun h => by have h9 : I53.1 ≤ k ∧ k < I53.2 := hk; have := (BL1_1).lt; omega)
  have tn4_2 : ∀ k, zz zn (Iv I53.1 I53.2) k → k ≠ b2 := fun k hk => (hinc53 k hk).elim ((fun _ h => zz_nil h) k) (fun h => by have h9 : I53.1 ≤ k ∧ k < I53.2 := hk; have := (Bs1).lt; omega)
  have tn4_86 : ∀ k, zz zn (Iv I53.1 I53.2) k → k ≠ b86 := fun k hk => (hinc53 k hk).elim ((fun _ h => zz_nil h) k) (fun h => by have h9 : I53.1 ≤ k ∧ k < I53.2 := hk; have := (Bb86).lt; omega)
  have ts4_1 : ∀ k, zz zn (Iv I53.1 I53.2) k → ob so1_1 k → False := fun k hk h2 => (hinc53 k hk).elim (fun h => (fun _ h _ => zz_nil h) k h h2) (fun h => by have h9 : I53.1 ≤ k ∧ k < I53.2 := hk; have := (ow1L_1).lt h2; omega)
  have tt4_1 : ∀ k, zz zn (Iv I53.1 I53.2) k → zz zn TT1_1 k → False := fun k hk h2 => (hinc53 k hk).elim (fun h => (fun _ h _ => zz_nil h) k h h2) (fun h => by have := (tw1L_1).lt (k := k) h2; omega)
  have hn2 := HZ.nil (α := Ins) qi_s w5
  have hn2i := fun (k : Nat) (hk : zz zn (fun _ => False) k) => (hk.elim : zz none (fun _ => False) k ∨ w5.heap.size ≤ k)
  have tg6 : ∀ k, zz zn (fun _ => False) k → w0.heap.size ≤ k := fun k hk => (hn2i k hk).elim ((fun _ h => zz_nil h) k) (fun h => by omega)
  have tn6_1 : ∀ k, zz zn (fun _ => False) k → k ≠ b1 := fun k hk => (hn2i k hk).elim ((fun _ h => zz_nil h) k) (fun h => by have := (BL1_1).lt; omega)
  have tn6_2 : ∀ k, zz zn (fun _ => False) k → k ≠ b2 := fun k hk => (hn2i k hk).elim ((fun _ h => zz_nil h) k) (fun h => by have := (Bs1).lt; omega)
  have tn6_86 : ∀ k, zz zn (fun _ => False) k → k ≠ b86 := fun k hk => (hn2i k hk).elim ((fun _ h => zz_nil h) k) (fun h => by have := (Bb86).lt; omega)
  have ts6_1 : ∀ k, zz zn (fun _ => False) k → ob so1_1 k → False := fun k hk h2 => (hn2i k hk).elim (fun h => (fun _ h _ => zz_nil h) k h h2) (fun h => by have := (ow1L_1).lt h2; omega)
  have tt6_1 : ∀ k, zz zn (fun _ => False) k → zz zn TT1_1 k → False := fun k hk h2 => (hn2i k hk).elim (fun h => (fun _ h _ => zz_nil h) k h h2) (fun h => by have := (tw1L_1).lt (k := k) h2; omega)
  have tt6_2 : ∀ k, zz zn (fun _ => False) k → zz zn (Iv I53.1 I53.2) k → False := fun k hk h2 => (hn2i k hk).elim (fun h => (fun _ h _ => zz_nil h) k h h2) (fun h => by have := (hdz53).lt (k := k) h2; omega)
  refine lx_set (want rfl) sz_181 rfl (t_agg rfl) rfl rfl rfl Bb86 (Nat.le_of_ble_eq_true rfl) ?_
  intro w6 Es2 Bs2
  have F6 := F5.set Es2 (by omega)
  have hzs2 := Es2.size
  refine lx_nil ?_
  refine wk_seq ?_
  refine wk_seq ?_
  refine wk_region ?_
  refine lx_value (want rfl) (rn_fieldAddr fa_35_1 (A1.at 1 rfl rfl)) ?_
  refine lx_value (want rfl) (rn_load1Blk ag_33 rfl ((((BL1_1.ext Eb2).ne Es1 (by omega)).ext E1).ne Es2 (by omega)) rfl) ?_
  refine lx_value (want rfl) (rn_fieldAddr fa_78_1 rfl) ?_
  refine lx_value (want rfl) (rn_load1Blk ag_3 rfl ((Bs1.ext E1).ne Es2 (by omega)) rfl) ?_
  refine lx_value (want rfl) (rn_fieldAddr fa_78_1 rfl) ?_
  refine lx_value (want rfl) (rn_load1Blk ag_3 rfl ((Bs1.ext E1).ne Es2 (by omega)) rfl) ?_
  refine lx_value (want rfl) (rn_fieldAddr fa_78_2 rfl) ?_
  refine lx_value (want rfl) (rn_load1Blk ag_3 rfl ((Bs1.ext E1).ne Es2 (by omega)) rfl) ?_
  refine lx_value (want rfl) (rn_add rfl rfl (by omega)) ?_
  obtain ⟨sd, hsd⟩ : ∃ sd, sd = dropAt sb x.base cb 4 := ⟨_, rfl⟩
  have hIn : InS F w0 sd (insOf SS x) := by rw [hsd]; exact (hS.code.take (x.base + x.size)).drop (k := x.base) (cap := cb) (by rw [List.length_take]; omega)
  refine lx_value (v := .slice sd x.size (cb - x.base)) (want rfl) ((by rw [hsd, show x.size = x.base + x.size - x.base by omega]; exact rn_sliceLH x.base (x.base + x.size) Tryz.underlying33 sz_73 rfl rfl rfl rfl (by omega) (by omega) (by omega))) ?_
  refine lx_value (want rfl) (rn_len Tryz.underlying33 rfl) ?_
  refine lx_value (want rfl) (mv_int rfl) ?_
  refine lx_nil ?_
  refine wk_block ?_
  refine wk_loopA [2, 3, 8, 9, 66, 67, 68, 69, 70, 71, 72, 73, 74, 75, 76, 77, 78, 79, 80, 81, 82, 83, 84, 85, 86, 87, 88, 89, 90, 91, 92, 93, 94, 95, 96, 97, 98, 99, 100, 101, 102, 103, 104, 105, 106, 107, 108, 109, 110, 111, 112] (fun j => no j ∨ w0.heap.size ≤ j) (fun nM ρ w => ∃ (j : Nat) (vs : List Value) (so2_1 : Option Addr) (co2_1 : Nat) (so2_2 : Option Addr) (co2_2 : Nat) (TT2_1 : Nat → Prop) (TT2_2 : Nat → Prop) (TT2_3 : Nat → Prop), nM = x.size - j ∧ ρ 66 = .int .i64 j ∧ Blk w b1 (cellsOf BL1_1) 35 ∧ Blk w b2 (cellsOf Bs1) 78 ∧ Blk w b86 [.string x.nm, .int .i64 (x.ex : Nat), .slice ssN (mvL (-(x.base : Int)) x.st).length csN, .slice so2_2 j co2_2] 181 ∧ ρ 2 = .slice so2_1 (i) co2_1 ∧ OwnS w 181 4 so2_1 (i) co2_1 (us) ∧ (∀ k, ob so2_1 k → w0.heap.size ≤ k) ∧ (∀ k, ob so2_1 k → k ≠ b1) ∧ (∀ k, ob so2_1 k → k ≠ b2) ∧ (∀ k, ob so2_1 k → k ≠ b86) ∧ OwnS w 73 4 so2_2 (j) co2_2 (vs) ∧ (∀ k, ob so2_2 k → w0.heap.size ≤ k) ∧ (∀ k, ob so2_2 k → k ≠ b1) ∧ (∀ k, ob so2_2 k → k ≠ b2) ∧ (∀ k, ob so2_2 k → k ≠ b86) ∧ HZ 4 QG TT2_1 w us ((SS.slots.take i).map (segG SS)) ∧ (∀ k, zz zn TT2_1 k → w0.heap.size ≤ k) ∧ (∀ k, zz zn TT2_1 k → k ≠ b1) ∧ (∀ k, zz zn TT2_1 k → k ≠ b2) ∧ (∀ k, zz zn TT2_1 k → k ≠ b86) ∧ (∀ k, zz zn TT2_1 k → ob so2_1 k → False) ∧ (∀ k, zz zn TT2_1 k → ob so2_2 k → False) ∧ DZ TT2_2 w ssN (mvL (-(x.base : Int)) x.st) ∧ (∀ k, zz zn TT2_2 k → w0.heap.size ≤ k) ∧ (∀ k, zz zn TT2_2 k → k ≠ b1) ∧ (∀ k, zz zn TT2_2 k → k ≠ b2) ∧ (∀ k, zz zn TT2_2 k → k ≠ b86) ∧ (∀ k, zz zn TT2_2 k → ob so2_1 k → False) ∧ (∀ k, zz zn TT2_2 k → ob so2_2 k → False) ∧ HZ 4 QI TT2_3 w vs (((insOf SS x).take j).map (segI SS x.base)) ∧ (∀ k, zz zn TT2_3 k → w0.heap.size ≤ k) ∧ (∀ k, zz zn TT2_3 k → k ≠ b1) ∧ (∀ k, zz zn TT2_3 k → k ≠ b2) ∧ (∀ k, zz zn TT2_3 k → k ≠ b86) ∧ (∀ k, zz zn TT2_3 k → ob so2_1 k → False) ∧ (∀ k, zz zn TT2_3 k → ob so2_2 k → False) ∧ (∀ k, ob so2_1 k → ob so2_2 k → False) ∧ (∀ k, zz zn TT2_1 k → zz zn TT2_2 k → False) ∧ (∀ k, zz zn TT2_1 k → zz zn TT2_3 k → False) ∧ (∀ k, zz zn TT2_2 k → zz zn TT2_3 k → False) ∧ (j ≤ x.size)) _ ⟨0, [], so1_1, co1_1, none, 0, TT1_1, (Iv I53.1 I53.2), (fun _ => False), rfl, rfl, ((((BL1_1.ext Eb2).ne Es1 (by omega)).ext E1).ne Es2 (by omega)), ((Bs1.ext E1).ne Es2 (by omega)), Bs2, ho1_1, ((((ow1L_1.ext Eb2).ne Es1 (fun h => nb1 _ h rfl)).ext E1).ne Es2 (fun h => nb3 _ h rfl)), ge1L_1, ne1L_1_1, nb1, nb3, ((OwnS.nil w5 73 4).ne Es2 (fun h => (ob_none h : False))), (fun _ h => ob_none h), (fun _ h => ob_none h), (fun _ h => ob_none h), (fun _ h => ob_none h), ((((tw1L_1.ext Eb2).fr Es1 (fun k hk h => nb2 k hk h)).ext E1).fr Es2 (fun k hk h => nb4 k hk h)), tg1L_1, tn1L_1_1, nb2, nb4, ts1L_1_1, (fun _ _ h => ob_none h), (hdz53.fr Es2 (fun k hk h => tn4_86 k hk h)), tg4, tn4_1, tn4_2, tn4_86, ts4_1, (fun _ _ h => ob_none h), (hn2.fr Es2 (fun k hk h => tn6_86 k hk h)), tg6, tn6_1, tn6_2, tn6_86, ts6_1, (fun _ _ h => ob_none h), (fun _ _ h => ob_none h), (fun k h1 h2 => tt4_1 k h2 h1), (fun k h1 h2 => tt6_1 k h2 h1), (fun k h1 h2 => tt6_2 k h2 h1), by omega⟩ ?_
  rintro n2 ρ2 w7 A2 EL2 ⟨j, vs, so2_1, co2_1, so2_2, co2_2, TT2_1, TT2_2, TT2_3, rfl, hs2_66, BL2_1, BL2_2, BL2_86, ho2_1, ow2L_1, ge2L_1, ne2L_1_1, ne2L_1_2, ne2L_1_86, ow2L_2, ge2L_2, ne2L_2_1, ne2L_2_2, ne2L_2_86, tw2L_1, tg2L_1, tn2L_1_1, tn2L_1_2, tn2L_1_86, ts2L_1_1, ts2L_1_2, tw2L_2, tg2L_2, tn2L_2_1, tn2L_2_2, tn2L_2_86, ts2L_2_1, ts2L_2_2, tw2L_3, tg2L_3, tn2L_3_1, tn2L_3_2, tn2L_3_86, ts2L_3_1, ts2L_3_2, sp2L_1_2, tt2L_1_2, tt2L_1_3, tt2L_2_3, hj⟩
  have F7 := F6.wide EL2
  have hzL2 := EL2.size
  refine wk_seq ?_
  refine wk_region ?_
  refine lx_value (want rfl) (rn_lss hs2_66 (A2.at 65 rfl rfl)) ?_
  refine lx_dec (fun hlt1 => ?_) (fun hlt1 => ?_)
  ·
   obtain ⟨y, hy⟩ : ∃ y, (insOf SS x)[j]? = some y := ⟨_, List.getElem?_eq_getElem (by rw [insOf_len hbs]; omega)⟩
   have hyc := insOf_at hy
   obtain ⟨hyb, hy20⟩ := segOk_code hok hyc
   have hyd := smallI_at (smallS_code hsm) hyc
   obtain ⟨by_, oy, hsy, hFy, so, co, hcy, hco⟩ := hIn j y hy
   subst hsy
   refine lx_nil ?_
   refine wk_seq ?_
   refine wk_cond_t rfl ?_
   refine wk_skip ?_
   refine wk_seq ?_
   refine wk_block ?_
   refine wk_seq ?_
   refine wk_region ?_
   refine lx_value (want rfl) (rn_index _ Tryz.underlying33 sz_73 (A2.at 64 rfl rfl) hs2_66 rfl (by omega)) ?_
   refine lx_value (want rfl) (rn_loadN ag_73 sz_73 rfl rfl (hcy.fr F7 (fun h => h))) ?_
   refine lx_new (want rfl) (rn_alloc ze_73) ?_
   intro b3 w8 hb3 Eb3 B3 hlb3
   have F8 := F7.ext Eb3
   have hzb3 := Eb3.size
   have nb5 : ∀ k, ob so2_1 k → k ≠ b3 := fun k hk => by have := (ow2L_1).lt hk; omega
   have nb6 : ∀ k, ob so2_2 k → k ≠ b3 := fun k hk => by have := (ow2L_2).lt hk; omega
   have nb7 : ∀ k, zz zn TT2_1 k → k ≠ b3 := fun k hk => by have := (tw2L_1).lt hk; omega
   have nb8 : ∀ k, zz zn TT2_2 k → k ≠ b3 := fun k hk => by have := (tw2L_2).lt hk; omega
   have nb9 : ∀ k, zz zn TT2_3 k → k ≠ b3 := fun k hk => by have := (tw2L_3).lt hk; omega
   refine lx_set (want rfl) sz_73 rfl (t_agg rfl) rfl rfl rfl B3 (Nat.le_of_ble_eq_true rfl) ?_
   intro w9 Es3 Bs3
   have F9 := F8.set Es3 (by omega)
   have hzs3 := Es3.size
   refine lx_nil ?_
   refine wk_seq ?_
   refine wk_region ?_
   refine lx_value (want rfl) (rn_fieldAddr fa_73_3 rfl) ?_
   refine lx_value (want rfl) (rn_load1Blk ag_71 rfl Bs3 rfl) ?_
   refine lx_value (want rfl) (rn_fieldAddr fa_78_1 (A2.at 5 rfl rfl)) ?_
   refine lx_value (want rfl) (rn_load1Blk ag_3 rfl ((BL2_2.ext Eb3).ne Es3 (by omega)) rfl) ?_
   refine lx_value (want rfl) (rn_neg rfl (by omega)) ?_
   refine lx_call (want rfl) (ent_func cf_120 (argsC (t_slice rfl) (argsC (t_int rfl) args0))) (copied_ct y.outs so co F (-(x.base : Int)) (by omega) hyd hyb w9 (hco.fr (dd_stab F) F9 (fun _ _ h => h))) ?_
   rintro _ w10 E2 ⟨sN, cN, rfl, hDN2⟩
   have F10 := F9.ext E2
   have hz2 := E2.size
   have hd1 := DZ.of hDN2
   have hd1i := fun (k : Nat) (hk : zz zn (Iv w9.heap.size w10.heap.size) k) => (Or.inr hk.1 : zz none (fun _ => False) k ∨ w9.heap.size ≤ k)
   have tg8 : ∀ k, zz zn (Iv w9.heap.size w10.heap.size) k → w0.heap.size ≤ k := fun k hk => (hd1i k hk).elim ((fun _ h => zz_nil h) k) (fun h => by omega)
   have tn8_1 : ∀ k, zz zn (Iv w9.heap.size w10.heap.size) k → k ≠ b1 := fun k hk => (hd1i k hk).elim ((fun _ h => zz_nil h) k) (fun h => by have := (BL2_1).lt; omega)
   have tn8_2 : ∀ k, zz zn (Iv w9.heap.size w10.heap.size) k → k ≠ b2 := fun k hk => (hd1i k hk).elim ((fun _ h => zz_nil h) k) (fun h => by have := (BL2_2).lt; omega)
   have tn8_86 : ∀ k, zz zn (Iv w9.heap.size w10.heap.size) k → k ≠ b86 := fun k hk => (hd1i k hk).elim ((fun _ h => zz_nil h) k) (fun h => by have := (BL2_86).lt; omega)
   have tn8_3 : ∀ k, zz zn (Iv w9.heap.size w10.heap.size) k → k ≠ b3 := fun k hk => (hd1i k hk).elim ((fun _ h => zz_nil h) k) (fun h => by have := (Bs3).lt; omega)
   have ts8_1 : ∀ k, zz zn (Iv w9.heap.size w10.heap.size) k → ob so2_1 k → False := fun k hk h2 => (hd1i k hk).elim (fun h => (fun _ h _ => zz_nil h) k h h2) (fun h => by have := (ow2L_1).lt h2; omega)
   have ts8_2 : ∀ k, zz zn (Iv w9.heap.size w10.heap.size) k → ob so2_2 k → False := fun k hk h2 => (hd1i k hk).elim (fun h => (fun _ h _ => zz_nil h) k h h2) (fun h => by have := (ow2L_2).lt h2; omega)
   have tt8_1 : ∀ k, zz zn (Iv w9.heap.size w10.heap.size) k → zz zn TT2_1 k → False := fun k hk h2 => (hd1i k hk).elim (fun h => (fun _ h _ => zz_nil h) k h h2) (fun h => by have := (tw2L_1).lt (k := k) h2; omega)
   have tt8_2 : ∀ k, zz zn (Iv w9.heap.size w10.heap.size) k → zz zn TT2_2 k → False := fun k hk h2 => (hd1i k hk).elim (fun h => (fun _ h _ => zz_nil h) k h h2) (fun h => by have := (tw2L_2).lt (k := k) h2; omega)
   have tt8_3 : ∀ k, zz zn (Iv w9.heap.size w10.heap.size) k → zz zn TT2_3 k → False := fun k hk h2 => (hd1i k hk).elim (fun h => (fun _ h _ => zz_nil h) k h h2) (fun h => by have := (tw2L_3).lt (k := k) h2; omega)
   refine lx_value (want rfl) (rn_fieldAddr fa_73_3 rfl) ?_
   refine lx_set (want rfl) sz_71 rfl (t_slice rfl) rfl rfl rfl (Bs3.ext E2) (Nat.le_of_ble_eq_true rfl) ?_
   intro w11 Es4 Bs4
   have F11 := F10.set Es4 (by omega)
   have hzs4 := Es4.size
   refine lx_nil ?_
   refine wk_seq ?_
   refine wk_seq ?_
   refine wk_region ?_
   refine lx_value (want rfl) (rn_fieldAddr fa_73_0 rfl) ?_
   refine lx_value (want rfl) (rn_load1Blk ag_5 rfl Bs4 rfl) ?_
   refine lx_value (want rfl) (rn_eql rfl rfl) ?_
   refine lx_dec (fun h20 => ?_) (fun h20 => ?_)
   ·
    have hsI := segI_20 (S := SS) (b := x.base) h20
    obtain ⟨g1, g2, g3, g4⟩ := hy20 h20
    obtain ⟨s2, c2, hcz, hdz⟩ := hS.slots.get g4
    have hlp2 := (segOk_slot hok g4).2.1
    refine lx_nil ?_
    refine wk_cond_t rfl ?_
    refine wk_seq ?_
    refine wk_seq ?_
    refine wk_region ?_
    refine lx_value (want rfl) (rn_fieldAddr fa_73_1 rfl) ?_
    refine lx_value (want rfl) (rn_load1Blk ag_9 rfl Bs4 rfl) ?_
    refine lx_value (want rfl) (rn_neqBA rfl rfl) ?_
    refine lx_dec_f ((fun g => g g1)) ?_
    refine lx_value (want rfl) (mv_bool rfl) ?_
    refine lx_value (want_if (j := 3) (d := 83) (x := false) (y := false) rfl rfl (by decide) rfl) (rn_fieldAddr fa_73_2 rfl) ?_
    refine lx_value (want_if (j := 3) (d := 83) (x := false) (y := false) rfl rfl (by decide) rfl) (rn_load1Blk ag_3 rfl Bs4 rfl) ?_
    refine lx_value (want_if (j := 3) (d := 83) (x := false) (y := false) rfl rfl (by decide) rfl) (rn_fieldAddr fa_35_0 (A2.at 1 rfl (A1.at 1 rfl rfl))) ?_
    refine lx_value (want_if (j := 3) (d := 83) (x := false) (y := false) rfl rfl (by decide) rfl) (rn_load1Blk ag_32 rfl ((((BL2_1.ext Eb3).ne Es3 (by omega)).ext E2).ne Es4 (by omega)) rfl) ?_
    refine lx_value (want_if (j := 3) (d := 83) (x := false) (y := false) rfl rfl (by decide) rfl) (rn_len Tryz.underlying32 rfl) ?_
    refine lx_value (want_if (j := 3) (d := 83) (x := false) (y := false) rfl rfl (by decide) rfl) (rn_sub rfl rfl (by omega)) ?_
    refine lx_call (want_if (j := 3) (d := 83) (x := false) (y := false) rfl rfl (by decide) rfl) (ent_func cf_121 (argsC (t_int rfl) (argsC (t_int rfl) (argsC (t_int rfl) args0)))) (owithin_ct _ _ _ w11) ?_
    rintro _ w12 E3 rfl
    have F12 := F11.ext E3
    have hz3 := E3.size
    refine lx_b_t ((decide_eq_true ⟨by omega, by omega⟩)) ?_
    refine lx_value (want_if (j := 3) (d := 83) (x := false) (y := false) rfl rfl (by decide) rfl) (rn_not rfl) ?_
    refine lx_value (want rfl) (pick_f rfl rfl) ?_
    refine lx_nil ?_
    refine wk_cond_f rfl ?_
    refine wk_skip ?_
    refine wk_seq ?_
    refine wk_region ?_
    refine lx_value (want rfl) (rn_fieldAddr fa_35_0 (A2.at 1 rfl (A1.at 1 rfl rfl))) ?_
    refine lx_value (want rfl) (rn_load1Blk ag_32 rfl (((((BL2_1.ext Eb3).ne Es3 (by omega)).ext E2).ne Es4 (by omega)).ext E3) rfl) ?_
    refine lx_value (want rfl) (rn_fieldAddr fa_73_2 rfl) ?_
    refine lx_value (want rfl) (rn_load1Blk ag_3 rfl (Bs4.ext E3) rfl) ?_
    refine lx_value (want rfl) (rn_index y.n.toNat Tryz.underlying32 sz_78 rfl rfl (by omega) (by omega)) ?_
    refine lx_value (want rfl) (rn_loadN ag_78 sz_78 rfl rfl (hcz.fr F12 (fun h => h))) ?_
    refine lx_new (want rfl) (rn_alloc ze_78) ?_
    intro b4 w13 hb4 Eb4 B4 hlb4
    have F13 := F12.ext Eb4
    have hzb4 := Eb4.size
    have nb10 : ∀ k, ob so2_1 k → k ≠ b4 := fun k hk => by have := (ow2L_1).lt hk; omega
    have nb11 : ∀ k, ob so2_2 k → k ≠ b4 := fun k hk => by have := (ow2L_2).lt hk; omega
    have nb12 : ∀ k, zz zn TT2_1 k → k ≠ b4 := fun k hk => by have := (tw2L_1).lt hk; omega
    have nb13 : ∀ k, zz zn TT2_2 k → k ≠ b4 := fun k hk => by have := (tw2L_2).lt hk; omega
    have nb14 : ∀ k, zz zn TT2_3 k → k ≠ b4 := fun k hk => by have := (tw2L_3).lt hk; omega
    have nb15 : ∀ k, zz zn (Iv w9.heap.size w10.heap.size) k → k ≠ b4 := fun k hk => by have := (hd1).lt hk; omega
    refine lx_set (want rfl) sz_78 rfl (t_agg rfl) rfl rfl rfl B4 (Nat.le_of_ble_eq_true rfl) ?_
    intro w14 Es5 Bs5
    have F14 := F13.set Es5 (by omega)
    have hzs5 := Es5.size
    refine lx_nil ?_
    refine wk_seq ?_
    refine wk_region ?_
    refine lx_value (want rfl) (rn_fieldAddr fa_78_0 rfl) ?_
    refine lx_value (want rfl) (rn_load1Blk ag_9 rfl Bs5 rfl) ?_
    refine lx_value (want rfl) (rn_fieldAddr fa_73_1 rfl) ?_
    refine lx_set (want rfl) sz_9 rfl (t_string rfl) rfl rfl rfl (((Bs4.ext E3).ext Eb4).ne Es5 (by omega)) (Nat.le_of_ble_eq_true rfl) ?_
    intro w15 Es6 Bs6
    have F15 := F14.set Es6 (by omega)
    have hzs6 := Es6.size
    refine lx_value (want rfl) (rn_fieldAddr fa_73_2 rfl) ?_
    refine lx_set (want rfl) sz_3 rfl (t_int rfl) rfl rfl rfl Bs6 (Nat.le_of_ble_eq_true rfl) ?_
    intro w16 Es7 Bs7
    have F16 := F15.set Es7 (by omega)
    have hzs7 := Es7.size
    refine lx_nil ?_
    refine wk_seq ?_
    refine wk_region ?_
    refine lx_value (want rfl) (rn_fieldAddr fa_78_4 rfl) ?_
    refine lx_value (want rfl) (rn_load1Blk ag_4 rfl ((Bs5.ne Es6 (by omega)).ne Es7 (by omega)) rfl) ?_
    refine lx_b_f (hlp2) ?_
    refine lx_nil ?_
    refine wk_cond_f rfl ?_
    refine wk_skip ?_
    refine wk_region ?_
    refine lx_value (want rfl) (rn_fieldAddr fa_181_3 (A2.at 6 rfl rfl)) ?_
    refine lx_value (want rfl) (rn_load1Blk ag_33 rfl (((((((((BL2_86.ext Eb3).ne Es3 (by omega)).ext E2).ne Es4 (by omega)).ext E3).ext Eb4).ne Es5 (by omega)).ne Es6 (by omega)).ne Es7 (by omega)) rfl) ?_
    refine lx_value (want rfl) (rn_loadBlk ag_73 sz_73 rfl Bs7 rfl rfl) ?_
    refine lx_newS (want rfl) (rn_bslice (xs := [.tmp 108]) Tryz.underlying33 sz_73 ze_73 rfl (argsC (t_agg rfl) args0) (CL.cons rfl rfl CL.nil) rfl (Nat.le_of_ble_eq_true rfl)) ?_
    intro b5 w17 hb5 Eb5 B5 hlb5
    have F17 := F16.ext Eb5
    have hzb5 := Eb5.size
    have nb16 : ∀ k, ob so2_1 k → k ≠ b5 := fun k hk => by have := (ow2L_1).lt hk; omega
    have nb17 : ∀ k, ob so2_2 k → k ≠ b5 := fun k hk => by have := (ow2L_2).lt hk; omega
    have nb18 : ∀ k, zz zn TT2_1 k → k ≠ b5 := fun k hk => by have := (tw2L_1).lt hk; omega
    have nb19 : ∀ k, zz zn TT2_2 k → k ≠ b5 := fun k hk => by have := (tw2L_2).lt hk; omega
    have nb20 : ∀ k, zz zn TT2_3 k → k ≠ b5 := fun k hk => by have := (tw2L_3).lt hk; omega
    have nb21 : ∀ k, zz zn (Iv w9.heap.size w10.heap.size) k → k ≠ b5 := fun k hk => by have := (hd1).lt hk; omega
    refine lx_append 56 (want rfl) Tryz.underlying33 ti_73 (by decide) rfl (by decide) rfl rfl ((((((((((ow2L_2.ext Eb3).ne Es3 (fun h => nb6 _ h rfl)).ext E2).ne Es4 (fun h => nb6 _ h rfl)).ext E3).ext Eb4).ne Es5 (fun h => nb11 _ h rfl)).ne Es6 (fun h => nb6 _ h rfl)).ne Es7 (fun h => nb6 _ h rfl)).ext Eb5) ((Src.blk B5 rfl rfl)) (by omega) ?_
    intro sq3 cq3 w18 AP3
    have EA3 := AP3.fr
    have ow3 := AP3.own
    have ge3 : ∀ k, ob sq3 k → w0.heap.size ≤ k := fun k hk => (AP3.blk k hk).elim (ge2L_2 k) (fun h => (Nat.le_trans F17.size h))
    have ne3_1 : ∀ k, ob sq3 k → k ≠ b1 := fun k hk => (AP3.blk k hk).elim (ne2L_2_1 k) (fun h => by have := (((((((((((BL2_1.ext Eb3).ne Es3 (by omega)).ext E2).ne Es4 (by omega)).ext E3).ext Eb4).ne Es5 (by omega)).ne Es6 (by omega)).ne Es7 (by omega)).ext Eb5)).lt; omega)
    have ne3_2 : ∀ k, ob sq3 k → k ≠ b2 := fun k hk => (AP3.blk k hk).elim (ne2L_2_2 k) (fun h => by have := (((((((((((BL2_2.ext Eb3).ne Es3 (by omega)).ext E2).ne Es4 (by omega)).ext E3).ext Eb4).ne Es5 (by omega)).ne Es6 (by omega)).ne Es7 (by omega)).ext Eb5)).lt; omega)
    have ne3_86 : ∀ k, ob sq3 k → k ≠ b86 := fun k hk => (AP3.blk k hk).elim (ne2L_2_86 k) (fun h => by have := (((((((((((BL2_86.ext Eb3).ne Es3 (by omega)).ext E2).ne Es4 (by omega)).ext E3).ext Eb4).ne Es5 (by omega)).ne Es6 (by omega)).ne Es7 (by omega)).ext Eb5)).lt; omega)
    have ne3_3 : ∀ k, ob sq3 k → k ≠ b3 := fun k hk => (AP3.blk k hk).elim (nb6 k) (fun h => by have := ((Bs7.ext Eb5)).lt; omega)
    have ne3_4 : ∀ k, ob sq3 k → k ≠ b4 := fun k hk => (AP3.blk k hk).elim (nb11 k) (fun h => by have := ((((Bs5.ne Es6 (by omega)).ne Es7 (by omega)).ext Eb5)).lt; omega)
    have ne3_5 : ∀ k, ob sq3 k → k ≠ b5 := fun k hk => (AP3.blk k hk).elim (nb17 k) (fun h => by have := (B5).lt; omega)
    have sp3_1 : ∀ k, ob sq3 k → ob so2_1 k → False := fun k hk h2 => (AP3.blk k hk).elim (fun h => (fun k h1 h2 => sp2L_1_2 k h2 h1) k h h2) (fun h => by have := (((((((((((ow2L_1.ext Eb3).ne Es3 (fun h => nb5 _ h rfl)).ext E2).ne Es4 (fun h => nb5 _ h rfl)).ext E3).ext Eb4).ne Es5 (fun h => nb10 _ h rfl)).ne Es6 (fun h => nb5 _ h rfl)).ne Es7 (fun h => nb5 _ h rfl)).ext Eb5)).lt h2; omega)
    have F18 := F17.new EA3 ge2L_2
    have hzA3 := EA3.size
    have BA3_1 := ((((((((((BL2_1.ext Eb3).ne Es3 (by omega)).ext E2).ne Es4 (by omega)).ext E3).ext Eb4).ne Es5 (by omega)).ne Es6 (by omega)).ne Es7 (by omega)).ext Eb5).fr EA3 (fun h => ne2L_2_1 _ h rfl)
    have BA3_2 := ((((((((((BL2_2.ext Eb3).ne Es3 (by omega)).ext E2).ne Es4 (by omega)).ext E3).ext Eb4).ne Es5 (by omega)).ne Es6 (by omega)).ne Es7 (by omega)).ext Eb5).fr EA3 (fun h => ne2L_2_2 _ h rfl)
    have BA3_86 := ((((((((((BL2_86.ext Eb3).ne Es3 (by omega)).ext E2).ne Es4 (by omega)).ext E3).ext Eb4).ne Es5 (by omega)).ne Es6 (by omega)).ne Es7 (by omega)).ext Eb5).fr EA3 (fun h => ne2L_2_86 _ h rfl)
    have BA3_3 := (Bs7.ext Eb5).fr EA3 (fun h => nb6 _ h rfl)
    have BA3_4 := (((Bs5.ne Es6 (by omega)).ne Es7 (by omega)).ext Eb5).fr EA3 (fun h => nb11 _ h rfl)
    have BA3_5 := B5.fr EA3 (fun h => nb17 _ h rfl)
    have oA3_1 := ((((((((((ow2L_1.ext Eb3).ne Es3 (fun h => nb5 _ h rfl)).ext E2).ne Es4 (fun h => nb5 _ h rfl)).ext E3).ext Eb4).ne Es5 (fun h => nb10 _ h rfl)).ne Es6 (fun h => nb5 _ h rfl)).ne Es7 (fun h => nb5 _ h rfl)).ext Eb5).fr EA3 (fun k h1 h2 => (fun k h1 h2 => sp2L_1_2 k h2 h1) k h2 h1)
    have sr3_1 : ∀ k, ob so2_1 k → ob sq3 k → False := fun k h1 h2 => sp3_1 k h2 h1
    have sa3_1 : ∀ k, zz zn TT2_1 k → ob sq3 k → False := fun k hk h2 => (AP3.blk k h2).elim (fun h => ts2L_1_2 k hk h) (fun h => by have := (((((((((((tw2L_1.ext Eb3).fr Es3 (fun k hk h => nb7 k hk h)).ext E2).fr Es4 (fun k hk h => nb7 k hk h)).ext E3).ext Eb4).fr Es5 (fun k hk h => nb12 k hk h)).fr Es6 (fun k hk h => nb7 k hk h)).fr Es7 (fun k hk h => nb7 k hk h)).ext Eb5)).lt hk; omega)
    have sa3_2 : ∀ k, zz zn TT2_2 k → ob sq3 k → False := fun k hk h2 => (AP3.blk k h2).elim (fun h => ts2L_2_2 k hk h) (fun h => by have := (((((((((((tw2L_2.ext Eb3).fr Es3 (fun k hk h => nb8 k hk h)).ext E2).fr Es4 (fun k hk h => nb8 k hk h)).ext E3).ext Eb4).fr Es5 (fun k hk h => nb13 k hk h)).fr Es6 (fun k hk h => nb8 k hk h)).fr Es7 (fun k hk h => nb8 k hk h)).ext Eb5)).lt hk; omega)
    have sa3_3 : ∀ k, zz zn TT2_3 k → ob sq3 k → False := fun k hk h2 => (AP3.blk k h2).elim (fun h => ts2L_3_2 k hk h) (fun h => by have := (((((((((((tw2L_3.ext Eb3).fr Es3 (fun k hk h => nb9 k hk h)).ext E2).fr Es4 (fun k hk h => nb9 k hk h)).ext E3).ext Eb4).fr Es5 (fun k hk h => nb14 k hk h)).fr Es6 (fun k hk h => nb9 k hk h)).fr Es7 (fun k hk h => nb9 k hk h)).ext Eb5)).lt hk; omega)
    have sa3_4 : ∀ k, zz zn (Iv w9.heap.size w10.heap.size) k → ob sq3 k → False := fun k hk h2 => (AP3.blk k h2).elim (fun h => ts8_2 k hk h) (fun h => by have := ((((((((hd1.fr Es4 (fun k hk h => tn8_3 k hk h)).ext E3).ext Eb4).fr Es5 (fun k hk h => nb15 k hk h)).fr Es6 (fun k hk h => tn8_3 k hk h)).fr Es7 (fun k hk h => tn8_3 k hk h)).ext Eb5)).lt hk; omega)
    have tw9 := (by have h := ((((((((((((tw2L_3.ext Eb3).fr Es3 (fun k hk h => nb9 k hk h)).ext E2).fr Es4 (fun k hk h => nb9 k hk h)).ext E3).ext Eb4).fr Es5 (fun k hk h => nb14 k hk h)).fr Es6 (fun k hk h => nb9 k hk h)).fr Es7 (fun k hk h => nb9 k hk h)).ext Eb5).fr EA3 (fun k hk h => ts2L_3_2 k hk h))).snoc (a := inL (segI SS x.base y) sN cN) (x := segI SS x.base y) (show QI _ _ _ _ from ⟨sN, cN, rfl, by rw [hsI]; exact (((((((((hd1.fr Es4 (fun k hk h => tn8_3 k hk h)).ext E3).ext Eb4).fr Es5 (fun k hk h => nb15 k hk h)).fr Es6 (fun k hk h => tn8_3 k hk h)).fr Es7 (fun k hk h => tn8_3 k hk h)).ext Eb5).fr EA3 (fun k hk h => ts8_2 k hk h))).1⟩) (fun k hk => (((((((((hd1.fr Es4 (fun k hk h => tn8_3 k hk h)).ext E3).ext Eb4).fr Es5 (fun k hk h => nb15 k hk h)).fr Es6 (fun k hk h => tn8_3 k hk h)).fr Es7 (fun k hk h => tn8_3 k hk h)).ext Eb5).fr EA3 (fun k hk h => ts8_2 k hk h))).lt hk); rwa [map_step hy] at h)
    have tg9 : ∀ k, zz zn (fun k => TT2_3 k ∨ (Iv w9.heap.size w10.heap.size) k) k → w0.heap.size ≤ k := fun k => (fun h => h.elim (fun h => tg2L_3 k h) (fun h => tg8 k h))
    have tn9_1 : ∀ k, zz zn (fun k => TT2_3 k ∨ (Iv w9.heap.size w10.heap.size) k) k → k ≠ b1 := fun k => (fun h => h.elim (fun h => tn2L_3_1 k h) (fun h => tn8_1 k h))
    have tn9_2 : ∀ k, zz zn (fun k => TT2_3 k ∨ (Iv w9.heap.size w10.heap.size) k) k → k ≠ b2 := fun k => (fun h => h.elim (fun h => tn2L_3_2 k h) (fun h => tn8_2 k h))
    have tn9_86 : ∀ k, zz zn (fun k => TT2_3 k ∨ (Iv w9.heap.size w10.heap.size) k) k → k ≠ b86 := fun k => (fun h => h.elim (fun h => tn2L_3_86 k h) (fun h => tn8_86 k h))
    have tn9_3 : ∀ k, zz zn (fun k => TT2_3 k ∨ (Iv w9.heap.size w10.heap.size) k) k → k ≠ b3 := fun k => (fun h => h.elim (fun h => nb9 k h) (fun h => tn8_3 k h))
    have tn9_4 : ∀ k, zz zn (fun k => TT2_3 k ∨ (Iv w9.heap.size w10.heap.size) k) k → k ≠ b4 := fun k => (fun h => h.elim (fun h => nb14 k h) (fun h => nb15 k h))
    have tn9_5 : ∀ k, zz zn (fun k => TT2_3 k ∨ (Iv w9.heap.size w10.heap.size) k) k → k ≠ b5 := fun k => (fun h => h.elim (fun h => nb20 k h) (fun h => nb21 k h))
    have ts9_1 : ∀ k, zz zn (fun k => TT2_3 k ∨ (Iv w9.heap.size w10.heap.size) k) k → ob so2_1 k → False := fun k h0 h2 => (fun h => h.elim (fun h => ts2L_3_1 k h h2) (fun h => ts8_1 k h h2)) h0
    have ts9_2 : ∀ k, zz zn (fun k => TT2_3 k ∨ (Iv w9.heap.size w10.heap.size) k) k → ob sq3 k → False := fun k h0 h2 => (fun h => h.elim (fun h => sa3_3 k h h2) (fun h => sa3_4 k h h2)) h0
    have tt9_1 : ∀ k, zz zn (fun k => TT2_3 k ∨ (Iv w9.heap.size w10.heap.size) k) k → zz zn TT2_1 k → False := fun k h0 h2 => (fun h => h.elim (fun h => (fun k h1 h2 => tt2L_1_3 k h2 h1) k h h2) (fun h => tt8_1 k h h2)) h0
    have tt9_2 : ∀ k, zz zn (fun k => TT2_3 k ∨ (Iv w9.heap.size w10.heap.size) k) k → zz zn TT2_2 k → False := fun k h0 h2 => (fun h => h.elim (fun h => (fun k h1 h2 => tt2L_2_3 k h2 h1) k h h2) (fun h => tt8_2 k h h2)) h0
    refine lx_value (want rfl) (rn_fieldAddr fa_181_3 (A2.at 6 rfl rfl)) ?_
    refine lx_set (want rfl) sz_33 rfl (t_slice rfl) rfl rfl rfl BA3_86 (Nat.le_of_ble_eq_true rfl) ?_
    intro w19 Es8 Bs8
    have F19 := F18.set Es8 (by omega)
    have hzs8 := Es8.size
    refine lx_nil ?_
    refine wk_region ?_
    refine lx_value (want rfl) (rn_add hs2_66 rfl (by omega)) ?_
    refine lx_value (want rfl) (mv_int rfl) ?_
    refine lx_nil ?_
    exact ⟨rfl, ((((((((((((((((((((((((((((((((((((((((((((((((((((((A2.up rfl _).up rfl _).up rfl _).up rfl _).none _).up rfl _).up rfl _).up rfl _).up rfl _).up rfl _).up rfl _).up rfl _).none _).up rfl _).up rfl _).up rfl _).up rfl _).up rfl _).up rfl _).up rfl _).up rfl _).up rfl _).up rfl _).up rfl _).up rfl _).up rfl _).up rfl _).up rfl _).up rfl _).up rfl _).up rfl _).up rfl _).up rfl _).up rfl _).up rfl _).up rfl _).none _).up rfl _).up rfl _).up rfl _).none _).up rfl _).none _).up rfl _).up rfl _).up rfl _).up rfl _).up rfl _).up rfl _).up rfl _).up rfl _).none _).up rfl _).up rfl _), Fr.between F6 F19 (by omega), _, (by omega), j + 1, (vs ++ inL (segI SS x.base y) sN cN), so2_1, co2_1, sq3, cq3, TT2_1, TT2_2, (fun k => TT2_3 k ∨ (Iv w9.heap.size w10.heap.size) k), rfl, rfl, (BA3_1.ne Es8 (by omega)), (BA3_2.ne Es8 (by omega)), Bs8, ho2_1, (oA3_1.ne Es8 (fun h => ne2L_1_86 _ h rfl)), ge2L_1, ne2L_1_1, ne2L_1_2, ne2L_1_86, (by rw [hsI]; exact (ow3.ne Es8 (fun h => ne3_86 _ h rfl))), ge3, ne3_1, ne3_2, ne3_86, ((((((((((((tw2L_1.ext Eb3).fr Es3 (fun k hk h => nb7 k hk h)).ext E2).fr Es4 (fun k hk h => nb7 k hk h)).ext E3).ext Eb4).fr Es5 (fun k hk h => nb12 k hk h)).fr Es6 (fun k hk h => nb7 k hk h)).fr Es7 (fun k hk h => nb7 k hk h)).ext Eb5).fr EA3 (fun k hk h => ts2L_1_2 k hk h)).fr Es8 (fun k hk h => tn2L_1_86 k hk h)), tg2L_1, tn2L_1_1, tn2L_1_2, tn2L_1_86, ts2L_1_1, sa3_1, ((((((((((((tw2L_2.ext Eb3).fr Es3 (fun k hk h => nb8 k hk h)).ext E2).fr Es4 (fun k hk h => nb8 k hk h)).ext E3).ext Eb4).fr Es5 (fun k hk h => nb13 k hk h)).fr Es6 (fun k hk h => nb8 k hk h)).fr Es7 (fun k hk h => nb8 k hk h)).ext Eb5).fr EA3 (fun k hk h => ts2L_2_2 k hk h)).fr Es8 (fun k hk h => tn2L_2_86 k hk h)), tg2L_2, tn2L_2_1, tn2L_2_2, tn2L_2_86, ts2L_2_1, sa3_2, (tw9.fr Es8 (fun k hk h => tn9_86 k hk h)), tg9, tn9_1, tn9_2, tn9_86, ts9_1, ts9_2, sr3_1, tt2L_1_2, (fun k h1 h2 => tt9_1 k h2 h1), (fun k h1 h2 => tt9_2 k h2 h1), by omega⟩
   ·
    have hsI := segI_no (S := SS) (b := x.base) h20
    refine lx_nil ?_
    refine wk_cond_f rfl ?_
    refine wk_skip ?_
    refine wk_region ?_
    refine lx_value (want rfl) (rn_fieldAddr fa_181_3 (A2.at 6 rfl rfl)) ?_
    refine lx_value (want rfl) (rn_load1Blk ag_33 rfl ((((BL2_86.ext Eb3).ne Es3 (by omega)).ext E2).ne Es4 (by omega)) rfl) ?_
    refine lx_value (want rfl) (rn_loadBlk ag_73 sz_73 rfl Bs4 rfl rfl) ?_
    refine lx_newS (want rfl) (rn_bslice (xs := [.tmp 108]) Tryz.underlying33 sz_73 ze_73 rfl (argsC (t_agg rfl) args0) (CL.cons rfl rfl CL.nil) rfl (Nat.le_of_ble_eq_true rfl)) ?_
    intro b6 w12 hb6 Eb6 B6 hlb6
    have F20 := F11.ext Eb6
    have hzb6 := Eb6.size
    have nb22 : ∀ k, ob so2_1 k → k ≠ b6 := fun k hk => by have := (ow2L_1).lt hk; omega
    have nb23 : ∀ k, ob so2_2 k → k ≠ b6 := fun k hk => by have := (ow2L_2).lt hk; omega
    have nb24 : ∀ k, zz zn TT2_1 k → k ≠ b6 := fun k hk => by have := (tw2L_1).lt hk; omega
    have nb25 : ∀ k, zz zn TT2_2 k → k ≠ b6 := fun k hk => by have := (tw2L_2).lt hk; omega
    have nb26 : ∀ k, zz zn TT2_3 k → k ≠ b6 := fun k hk => by have := (tw2L_3).lt hk; omega
    have nb27 : ∀ k, zz zn (Iv w9.heap.size w10.heap.size) k → k ≠ b6 := fun k hk => by have := (hd1).lt hk; omega
    refine lx_append 56 (want rfl) Tryz.underlying33 ti_73 (by decide) rfl (by decide) rfl rfl (((((ow2L_2.ext Eb3).ne Es3 (fun h => nb6 _ h rfl)).ext E2).ne Es4 (fun h => nb6 _ h rfl)).ext Eb6) ((Src.blk B6 rfl rfl)) (by omega) ?_
    intro sq4 cq4 w13 AP4
    have EA4 := AP4.fr
    have ow4 := AP4.own
    have ge4 : ∀ k, ob sq4 k → w0.heap.size ≤ k := fun k hk => (AP4.blk k hk).elim (ge2L_2 k) (fun h => (Nat.le_trans F20.size h))
    have ne4_1 : ∀ k, ob sq4 k → k ≠ b1 := fun k hk => (AP4.blk k hk).elim (ne2L_2_1 k) (fun h => by have := ((((((BL2_1.ext Eb3).ne Es3 (by omega)).ext E2).ne Es4 (by omega)).ext Eb6)).lt; omega)
    have ne4_2 : ∀ k, ob sq4 k → k ≠ b2 := fun k hk => (AP4.blk k hk).elim (ne2L_2_2 k) (fun h => by have := ((((((BL2_2.ext Eb3).ne Es3 (by omega)).ext E2).ne Es4 (by omega)).ext Eb6)).lt; omega)
    have ne4_86 : ∀ k, ob sq4 k → k ≠ b86 := fun k hk => (AP4.blk k hk).elim (ne2L_2_86 k) (fun h => by have := ((((((BL2_86.ext Eb3).ne Es3 (by omega)).ext E2).ne Es4 (by omega)).ext Eb6)).lt; omega)
    have ne4_3 : ∀ k, ob sq4 k → k ≠ b3 := fun k hk => (AP4.blk k hk).elim (nb6 k) (fun h => by have := ((Bs4.ext Eb6)).lt; omega)
    have ne4_6 : ∀ k, ob sq4 k → k ≠ b6 := fun k hk => (AP4.blk k hk).elim (nb23 k) (fun h => by have := (B6).lt; omega)
    have sp4_1 : ∀ k, ob sq4 k → ob so2_1 k → False := fun k hk h2 => (AP4.blk k hk).elim (fun h => (fun k h1 h2 => sp2L_1_2 k h2 h1) k h h2) (fun h => by have := ((((((ow2L_1.ext Eb3).ne Es3 (fun h => nb5 _ h rfl)).ext E2).ne Es4 (fun h => nb5 _ h rfl)).ext Eb6)).lt h2; omega)
    have F21 := F20.new EA4 ge2L_2
    have hzA4 := EA4.size
    have BA4_1 := (((((BL2_1.ext Eb3).ne Es3 (by omega)).ext E2).ne Es4 (by omega)).ext Eb6).fr EA4 (fun h => ne2L_2_1 _ h rfl)
    have BA4_2 := (((((BL2_2.ext Eb3).ne Es3 (by omega)).ext E2).ne Es4 (by omega)).ext Eb6).fr EA4 (fun h => ne2L_2_2 _ h rfl)
    have BA4_86 := (((((BL2_86.ext Eb3).ne Es3 (by omega)).ext E2).ne Es4 (by omega)).ext Eb6).fr EA4 (fun h => ne2L_2_86 _ h rfl)
    have BA4_3 := (Bs4.ext Eb6).fr EA4 (fun h => nb6 _ h rfl)
    have BA4_6 := B6.fr EA4 (fun h => nb23 _ h rfl)
    have oA4_1 := (((((ow2L_1.ext Eb3).ne Es3 (fun h => nb5 _ h rfl)).ext E2).ne Es4 (fun h => nb5 _ h rfl)).ext Eb6).fr EA4 (fun k h1 h2 => (fun k h1 h2 => sp2L_1_2 k h2 h1) k h2 h1)
    have sr4_1 : ∀ k, ob so2_1 k → ob sq4 k → False := fun k h1 h2 => sp4_1 k h2 h1
    have sa4_1 : ∀ k, zz zn TT2_1 k → ob sq4 k → False := fun k hk h2 => (AP4.blk k h2).elim (fun h => ts2L_1_2 k hk h) (fun h => by have := ((((((tw2L_1.ext Eb3).fr Es3 (fun k hk h => nb7 k hk h)).ext E2).fr Es4 (fun k hk h => nb7 k hk h)).ext Eb6)).lt hk; omega)
    have sa4_2 : ∀ k, zz zn TT2_2 k → ob sq4 k → False := fun k hk h2 => (AP4.blk k h2).elim (fun h => ts2L_2_2 k hk h) (fun h => by have := ((((((tw2L_2.ext Eb3).fr Es3 (fun k hk h => nb8 k hk h)).ext E2).fr Es4 (fun k hk h => nb8 k hk h)).ext Eb6)).lt hk; omega)
    have sa4_3 : ∀ k, zz zn TT2_3 k → ob sq4 k → False := fun k hk h2 => (AP4.blk k h2).elim (fun h => ts2L_3_2 k hk h) (fun h => by have := ((((((tw2L_3.ext Eb3).fr Es3 (fun k hk h => nb9 k hk h)).ext E2).fr Es4 (fun k hk h => nb9 k hk h)).ext Eb6)).lt hk; omega)
    have sa4_4 : ∀ k, zz zn (Iv w9.heap.size w10.heap.size) k → ob sq4 k → False := fun k hk h2 => (AP4.blk k h2).elim (fun h => ts8_2 k hk h) (fun h => by have := (((hd1.fr Es4 (fun k hk h => tn8_3 k hk h)).ext Eb6)).lt hk; omega)
    have tw10 := (by have h := (((((((tw2L_3.ext Eb3).fr Es3 (fun k hk h => nb9 k hk h)).ext E2).fr Es4 (fun k hk h => nb9 k hk h)).ext Eb6).fr EA4 (fun k hk h => ts2L_3_2 k hk h))).snoc (a := inL (segI SS x.base y) sN cN) (x := segI SS x.base y) (show QI _ _ _ _ from ⟨sN, cN, rfl, by rw [hsI]; exact ((((hd1.fr Es4 (fun k hk h => tn8_3 k hk h)).ext Eb6).fr EA4 (fun k hk h => ts8_2 k hk h))).1⟩) (fun k hk => ((((hd1.fr Es4 (fun k hk h => tn8_3 k hk h)).ext Eb6).fr EA4 (fun k hk h => ts8_2 k hk h))).lt hk); rwa [map_step hy] at h)
    have tg10 : ∀ k, zz zn (fun k => TT2_3 k ∨ (Iv w9.heap.size w10.heap.size) k) k → w0.heap.size ≤ k := fun k => (fun h => h.elim (fun h => tg2L_3 k h) (fun h => tg8 k h))
    have tn10_1 : ∀ k, zz zn (fun k => TT2_3 k ∨ (Iv w9.heap.size w10.heap.size) k) k → k ≠ b1 := fun k => (fun h => h.elim (fun h => tn2L_3_1 k h) (fun h => tn8_1 k h))
    have tn10_2 : ∀ k, zz zn (fun k => TT2_3 k ∨ (Iv w9.heap.size w10.heap.size) k) k → k ≠ b2 := fun k => (fun h => h.elim (fun h => tn2L_3_2 k h) (fun h => tn8_2 k h))
    have tn10_86 : ∀ k, zz zn (fun k => TT2_3 k ∨ (Iv w9.heap.size w10.heap.size) k) k → k ≠ b86 := fun k => (fun h => h.elim (fun h => tn2L_3_86 k h) (fun h => tn8_86 k h))
    have tn10_3 : ∀ k, zz zn (fun k => TT2_3 k ∨ (Iv w9.heap.size w10.heap.size) k) k → k ≠ b3 := fun k => (fun h => h.elim (fun h => nb9 k h) (fun h => tn8_3 k h))
    have tn10_6 : ∀ k, zz zn (fun k => TT2_3 k ∨ (Iv w9.heap.size w10.heap.size) k) k → k ≠ b6 := fun k => (fun h => h.elim (fun h => nb26 k h) (fun h => nb27 k h))
    have ts10_1 : ∀ k, zz zn (fun k => TT2_3 k ∨ (Iv w9.heap.size w10.heap.size) k) k → ob so2_1 k → False := fun k h0 h2 => (fun h => h.elim (fun h => ts2L_3_1 k h h2) (fun h => ts8_1 k h h2)) h0
    have ts10_2 : ∀ k, zz zn (fun k => TT2_3 k ∨ (Iv w9.heap.size w10.heap.size) k) k → ob sq4 k → False := fun k h0 h2 => (fun h => h.elim (fun h => sa4_3 k h h2) (fun h => sa4_4 k h h2)) h0
    have tt10_1 : ∀ k, zz zn (fun k => TT2_3 k ∨ (Iv w9.heap.size w10.heap.size) k) k → zz zn TT2_1 k → False := fun k h0 h2 => (fun h => h.elim (fun h => (fun k h1 h2 => tt2L_1_3 k h2 h1) k h h2) (fun h => tt8_1 k h h2)) h0
    have tt10_2 : ∀ k, zz zn (fun k => TT2_3 k ∨ (Iv w9.heap.size w10.heap.size) k) k → zz zn TT2_2 k → False := fun k h0 h2 => (fun h => h.elim (fun h => (fun k h1 h2 => tt2L_2_3 k h2 h1) k h h2) (fun h => tt8_2 k h h2)) h0
    refine lx_value (want rfl) (rn_fieldAddr fa_181_3 (A2.at 6 rfl rfl)) ?_
    refine lx_set (want rfl) sz_33 rfl (t_slice rfl) rfl rfl rfl BA4_86 (Nat.le_of_ble_eq_true rfl) ?_
    intro w14 Es9 Bs9
    have F22 := F21.set Es9 (by omega)
    have hzs9 := Es9.size
    refine lx_nil ?_
    refine wk_region ?_
    refine lx_value (want rfl) (rn_add hs2_66 rfl (by omega)) ?_
    refine lx_value (want rfl) (mv_int rfl) ?_
    refine lx_nil ?_
    exact ⟨rfl, (((((((((((((((((((((((((A2.up rfl _).up rfl _).up rfl _).up rfl _).none _).up rfl _).up rfl _).up rfl _).up rfl _).up rfl _).up rfl _).up rfl _).none _).up rfl _).up rfl _).up rfl _).up rfl _).up rfl _).up rfl _).up rfl _).up rfl _).up rfl _).none _).up rfl _).up rfl _), Fr.between F6 F22 (by omega), _, (by omega), j + 1, (vs ++ inL (segI SS x.base y) sN cN), so2_1, co2_1, sq4, cq4, TT2_1, TT2_2, (fun k => TT2_3 k ∨ (Iv w9.heap.size w10.heap.size) k), rfl, rfl, (BA4_1.ne Es9 (by omega)), (BA4_2.ne Es9 (by omega)), Bs9, ho2_1, (oA4_1.ne Es9 (fun h => ne2L_1_86 _ h rfl)), ge2L_1, ne2L_1_1, ne2L_1_2, ne2L_1_86, (by rw [hsI]; exact (ow4.ne Es9 (fun h => ne4_86 _ h rfl))), ge4, ne4_1, ne4_2, ne4_86, (((((((tw2L_1.ext Eb3).fr Es3 (fun k hk h => nb7 k hk h)).ext E2).fr Es4 (fun k hk h => nb7 k hk h)).ext Eb6).fr EA4 (fun k hk h => ts2L_1_2 k hk h)).fr Es9 (fun k hk h => tn2L_1_86 k hk h)), tg2L_1, tn2L_1_1, tn2L_1_2, tn2L_1_86, ts2L_1_1, sa4_1, (((((((tw2L_2.ext Eb3).fr Es3 (fun k hk h => nb8 k hk h)).ext E2).fr Es4 (fun k hk h => nb8 k hk h)).ext Eb6).fr EA4 (fun k hk h => ts2L_2_2 k hk h)).fr Es9 (fun k hk h => tn2L_2_86 k hk h)), tg2L_2, tn2L_2_1, tn2L_2_2, tn2L_2_86, ts2L_2_1, sa4_2, (tw10.fr Es9 (fun k hk h => tn10_86 k hk h)), tg10, tn10_1, tn10_2, tn10_86, ts10_1, ts10_2, sr4_1, tt2L_1_2, (fun k h1 h2 => tt10_1 k h2 h1), (fun k h1 h2 => tt10_2 k h2 h1), by omega⟩
  ·
   obtain rfl : j = ((insOf SS x).map (segI SS x.base)).length := by rw [List.length_map, insOf_len hbs]; omega
   refine lx_nil ?_
   refine wk_seq ?_
   refine wk_cond_f rfl ?_
   refine wk_exit ?_
   refine wk_region ?_
   refine lx_value (want rfl) (mv_slice ho2_1) ?_
   refine lx_value (want rfl) (rn_loadBlk ag_181 sz_181 (A2.at 6 rfl rfl) BL2_86 rfl rfl) ?_
   refine lx_newS (want rfl) (rn_bslice (xs := [.tmp 114]) Tryz.underlying128 sz_181 ze_181 rfl (argsC (t_agg rfl) args0) (CL.cons rfl rfl CL.nil) rfl (Nat.le_of_ble_eq_true rfl)) ?_
   intro b7 w8 hb7 Eb7 B7 hlb7
   have F23 := F7.ext Eb7
   have hzb7 := Eb7.size
   have nb28 : ∀ k, ob so2_1 k → k ≠ b7 := fun k hk => by have := (ow2L_1).lt hk; omega
   have nb29 : ∀ k, ob so2_2 k → k ≠ b7 := fun k hk => by have := (ow2L_2).lt hk; omega
   have nb30 : ∀ k, zz zn TT2_1 k → k ≠ b7 := fun k hk => by have := (tw2L_1).lt hk; omega
   have nb31 : ∀ k, zz zn TT2_2 k → k ≠ b7 := fun k hk => by have := (tw2L_2).lt hk; omega
   have nb32 : ∀ k, zz zn TT2_3 k → k ≠ b7 := fun k hk => by have := (tw2L_3).lt hk; omega
   refine lx_append 72 (want rfl) Tryz.underlying128 ti_181 (by decide) rfl (by decide) rfl rfl (ow2L_1.ext Eb7) ((Src.blk B7 rfl rfl)) (by omega) ?_
   intro sq5 cq5 w9 AP5
   have EA5 := AP5.fr
   have ow5 := AP5.own
   have ge5 : ∀ k, ob sq5 k → w0.heap.size ≤ k := fun k hk => (AP5.blk k hk).elim (ge2L_1 k) (fun h => (Nat.le_trans F23.size h))
   have ne5_1 : ∀ k, ob sq5 k → k ≠ b1 := fun k hk => (AP5.blk k hk).elim (ne2L_1_1 k) (fun h => by have := ((BL2_1.ext Eb7)).lt; omega)
   have ne5_2 : ∀ k, ob sq5 k → k ≠ b2 := fun k hk => (AP5.blk k hk).elim (ne2L_1_2 k) (fun h => by have := ((BL2_2.ext Eb7)).lt; omega)
   have ne5_86 : ∀ k, ob sq5 k → k ≠ b86 := fun k hk => (AP5.blk k hk).elim (ne2L_1_86 k) (fun h => by have := ((BL2_86.ext Eb7)).lt; omega)
   have ne5_7 : ∀ k, ob sq5 k → k ≠ b7 := fun k hk => (AP5.blk k hk).elim (nb28 k) (fun h => by have := (B7).lt; omega)
   have sp5_2 : ∀ k, ob sq5 k → ob so2_2 k → False := fun k hk h2 => (AP5.blk k hk).elim (fun h => sp2L_1_2 k h h2) (fun h => by have := ((ow2L_2.ext Eb7)).lt h2; omega)
   have F24 := F23.new EA5 ge2L_1
   have hzA5 := EA5.size
   have BA5_1 := (BL2_1.ext Eb7).fr EA5 (fun h => ne2L_1_1 _ h rfl)
   have BA5_2 := (BL2_2.ext Eb7).fr EA5 (fun h => ne2L_1_2 _ h rfl)
   have BA5_86 := (BL2_86.ext Eb7).fr EA5 (fun h => ne2L_1_86 _ h rfl)
   have BA5_7 := B7.fr EA5 (fun h => nb28 _ h rfl)
   have oA5_2 := (ow2L_2.ext Eb7).fr EA5 (fun k h1 h2 => sp2L_1_2 k h2 h1)
   have sr5_2 : ∀ k, ob so2_2 k → ob sq5 k → False := fun k h1 h2 => sp5_2 k h2 h1
   have sa5_1 : ∀ k, zz zn TT2_1 k → ob sq5 k → False := fun k hk h2 => (AP5.blk k h2).elim (fun h => ts2L_1_1 k hk h) (fun h => by have := ((tw2L_1.ext Eb7)).lt hk; omega)
   have sa5_2 : ∀ k, zz zn TT2_2 k → ob sq5 k → False := fun k hk h2 => (AP5.blk k h2).elim (fun h => ts2L_2_1 k hk h) (fun h => by have := ((tw2L_2.ext Eb7)).lt hk; omega)
   have sa5_3 : ∀ k, zz zn TT2_3 k → ob sq5 k → False := fun k hk h2 => (AP5.blk k h2).elim (fun h => ts2L_3_1 k hk h) (fun h => by have := ((tw2L_3.ext Eb7)).lt hk; omega)
   have tw11 := (by have h := (((tw2L_1.ext Eb7).fr EA5 (fun k hk h => ts2L_1_1 k hk h))).snoc (Z2 := fun k => TT2_2 k ∨ TT2_3 k ∨ ob so2_2 k) (a := sgL (segG SS x) ssN csN so2_2 co2_2) (x := segG SS x) (show QG _ _ _ _ from ⟨ssN, csN, so2_2, co2_2, rfl, dd_wide (fun _ h => .inl h) (((tw2L_2.ext Eb7).fr EA5 (fun k hk h => ts2L_2_1 k hk h))).1, qi_sl (by have h := ((tw2L_3.ext Eb7).fr EA5 (fun k hk h => ts2L_3_1 k hk h)); rwa [List.take_of_length_le (by rw [List.length_map]; exact Nat.le_refl _)] at h) oA5_2 (fun _ h => .inr (.inl h)) (fun _ h => .inr (.inr h)), own_cap oA5_2⟩) (fun k hk => hk.elim (fun h => (((tw2L_2.ext Eb7).fr EA5 (fun k hk h => ts2L_2_1 k hk h))).lt h) (fun h => h.elim (fun h => (((tw2L_3.ext Eb7).fr EA5 (fun k hk h => ts2L_3_1 k hk h))).lt h) (fun h => (oA5_2).lt h))); rwa [map_step hx] at h)
   have tg11 : ∀ k, zz zn (fun k => TT2_1 k ∨ TT2_2 k ∨ TT2_3 k ∨ ob so2_2 k) k → w0.heap.size ≤ k := fun k => (fun h => h.elim (fun h => tg2L_1 k h) (fun h => h.elim (fun h => tg2L_2 k h) (fun h => h.elim (fun h => tg2L_3 k h) (fun h => ge2L_2 k h))))
   have tn11_1 : ∀ k, zz zn (fun k => TT2_1 k ∨ TT2_2 k ∨ TT2_3 k ∨ ob so2_2 k) k → k ≠ b1 := fun k => (fun h => h.elim (fun h => tn2L_1_1 k h) (fun h => h.elim (fun h => tn2L_2_1 k h) (fun h => h.elim (fun h => tn2L_3_1 k h) (fun h => ne2L_2_1 k h))))
   have tn11_2 : ∀ k, zz zn (fun k => TT2_1 k ∨ TT2_2 k ∨ TT2_3 k ∨ ob so2_2 k) k → k ≠ b2 := fun k => (fun h => h.elim (fun h => tn2L_1_2 k h) (fun h => h.elim (fun h => tn2L_2_2 k h) (fun h => h.elim (fun h => tn2L_3_2 k h) (fun h => ne2L_2_2 k h))))
   have tn11_86 : ∀ k, zz zn (fun k => TT2_1 k ∨ TT2_2 k ∨ TT2_3 k ∨ ob so2_2 k) k → k ≠ b86 := fun k => (fun h => h.elim (fun h => tn2L_1_86 k h) (fun h => h.elim (fun h => tn2L_2_86 k h) (fun h => h.elim (fun h => tn2L_3_86 k h) (fun h => ne2L_2_86 k h))))
   have tn11_7 : ∀ k, zz zn (fun k => TT2_1 k ∨ TT2_2 k ∨ TT2_3 k ∨ ob so2_2 k) k → k ≠ b7 := fun k => (fun h => h.elim (fun h => nb30 k h) (fun h => h.elim (fun h => nb31 k h) (fun h => h.elim (fun h => nb32 k h) (fun h => nb29 k h))))
   have ts11_1 : ∀ k, zz zn (fun k => TT2_1 k ∨ TT2_2 k ∨ TT2_3 k ∨ ob so2_2 k) k → ob sq5 k → False := fun k h0 h2 => (fun h => h.elim (fun h => sa5_1 k h h2) (fun h => h.elim (fun h => sa5_2 k h h2) (fun h => h.elim (fun h => sa5_3 k h h2) (fun h => sr5_2 k h h2)))) h0
   refine lx_value (want rfl) (as_slice rfl) ?_
   refine lx_nil ?_
   refine wk_region ?_
   refine lx_value (want rfl) (rn_add (A2.at 13 rfl hs1_13) rfl (by omega)) ?_
   refine lx_value (want rfl) (mv_int rfl) ?_
   refine lx_nil ?_
   exact ⟨rfl, ((((((((((((((((((((((((((((((((((((((((((((((((((((((((((((((((((A1.up rfl _).up rfl _).up rfl _).up rfl _).none _).up rfl _).up rfl _).up rfl _).up rfl _).up rfl _).up rfl _).up rfl _).up rfl _).up rfl _).up rfl _).up rfl _).up rfl _).up rfl _).up rfl _).up rfl _).up rfl _).up rfl _).up rfl _).up rfl _).up rfl _).up rfl _).up rfl _).up rfl _).up rfl _).up rfl _).up rfl _).up rfl _).up rfl _).up rfl _).up rfl _).up rfl _).up rfl _).up rfl _).up rfl _).up rfl _).up rfl _).up rfl _).up rfl _).up rfl _).none _).up rfl _).up rfl _).up rfl _).up rfl _).up rfl _).up rfl _).up rfl _).up rfl _).up rfl _).up rfl _).up rfl _).up rfl _).loop A2 rfl).up rfl _).up rfl _).up rfl _).up rfl _).up rfl _).up rfl _).up rfl _).up rfl _), Fr.between F1 F24 (by omega), _, (by omega), i + 1, (us ++ sgL (segG SS x) ssN csN so2_2 co2_2), sq5, cq5, (fun k => TT2_1 k ∨ TT2_2 k ∨ TT2_3 k ∨ ob so2_2 k), rfl, rfl, BA5_1, rfl, ow5, ge5, ne5_1, tw11, tg11, tn11_1, ts11_1, by omega⟩
 ·
  refine lx_nil ?_
  refine wk_seq ?_
  refine wk_cond_f rfl ?_
  refine wk_exit ?_
  refine wk_seq ?_
  refine wk_region ?_
  refine lx_value (want rfl) (mv_slice ho1_1) ?_
  refine lx_value (want rfl) (as_slice rfl) ?_
  refine lx_value (want rfl) (as_bool rfl) ?_
  refine lx_nil ?_
  refine wk_ret ?_
  refine retR2 Tryz.results83 (.tmp (t_slice rfl)) (.tmp (t_bool rfl)) F2 ?_
  obtain rfl : i = SS.slots.length := by omega
  exact ⟨_, _, by unfold segsL; rw [List.length_map], qg_sl (l := segsL SS) (by have h := tw1L_1; rwa [List.take_length] at h) ow1L_1 (fun k hk => ⟨tg1L_1 k hk, (tw1L_1).lt hk⟩) (fun k hk => ⟨ge1L_1 k hk, (ow1L_1).lt hk⟩)⟩

end Go.Proofs.YtgnnegfnpgnbbaaGreatDoor

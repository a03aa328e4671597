/- What functions compute: eqdd, isname, find1, cvalue, containse, containst, containsn, containsi, containsv, operands, lt, nodes1, containsk, containsp. -/
import Derived.Test.YtgnnegfnpgnbbaaGreatDoorHomesFacts
import Derived.Test.YtgnnegfnpgnbbaaGreatDoorHomesPre
import Derived.Test.YtgnnegfnpgnbbaaGreatDoorHomesWalk1
import Derived.Test.YtgnnegfnpgnbbaaGreatDoorHomesWalk2
import Derived.Test.YtgnnegfnpgnbbaaGreatDoorHomesWalk3
set_option maxRecDepth 100000
set_option linter.unusedVariables false
set_option linter.unusedSimpArgs false
namespace Go.Proofs.YtgnnegfnpgnbbaaGreatDoor
open Go Go.RowKit Go.Mix Go.Eng
theorem eqdd_ct (L : List (List Ds)) (s1 s2 : Option Addr) (c1 c2 : Nat) (Fa Fb : Nat → Prop) (hsm : smallD L = true) (w0 : World) (ha : DdS Fa w0 s1 L) (hb : DdS Fb w0 s2 L) :
  CT Tryz.prog 155 [.slice s1 L.length c1, .slice s2 L.length c2, .func (.func 151) #[] #[]] w0 no (fun v _ => v = .bool true) := by
 have hal := smallD_len hsm
 have F0 := Fr.refl no w0
 refine ct_body Tryz.func155 rfl Tryz.ntmps155 (Nat.le_of_ble_eq_true rfl) ?_
 refine wk_seq ?_
 refine wk_region ?_
 refine lx_value (want rfl) (as_bool rfl) ?_
 refine lx_nil ?_
 refine wk_seq ?_
 refine wk_seq ?_
 refine wk_region ?_
 refine lx_value (want rfl) (mv_slice rfl) ?_
 refine lx_value (want rfl) (rn_len Tryz.underlying71 rfl) ?_
 refine lx_value (want rfl) (mv_slice rfl) ?_
 refine lx_value (want rfl) (rn_len Tryz.underlying71 rfl) ?_
 refine lx_value (want rfl) (rn_neq rfl rfl) ?_
 refine lx_dec_f ((fun g => g rfl)) ?_
 refine lx_nil ?_
 refine wk_cond_f rfl ?_
 refine wk_skip ?_
 refine wk_seq ?_
 refine wk_seq ?_
 refine wk_region ?_
 refine lx_value (want rfl) (mv_slice rfl) ?_
 refine lx_value (want rfl) (rn_len Tryz.underlying71 rfl) ?_
 refine lx_value (want rfl) (mv_int rfl) ?_
 refine lx_nil ?_
 refine wk_block ?_
 refine wk_loopA [6, 7, 8, 9, 17, 18, 19, 20, 21, 22, 23, 24, 25, 26, 27, 28, 29, 30, 31] no (fun nM ρ w => ∃ (i : Nat), nM = L.length - i ∧ ρ 17 = .int .i64 i ∧ (i ≤ L.length)) _ ⟨0, rfl, rfl, by omega⟩ ?_
 rintro n1 ρ1 w1 A1 EL1 ⟨i, rfl, hs1_17, hi⟩
 have F1 := F0.ext EL1
 have hzL1 := EL1.size
 refine wk_seq ?_
 refine wk_region ?_
 refine lx_value (want rfl) (rn_lss hs1_17 (A1.at 16 rfl rfl)) ?_
 refine lx_dec (fun hlt => ?_) (fun hlt => ?_)
 ·
  obtain ⟨x, hx⟩ := getx hlt
  obtain ⟨bx, ox, hsx, _, sx, cx, hcx, hdx⟩ := ha i x hx
  subst hsx
  obtain ⟨by_, oy, hsy, _, sy, cy, hcy, hdy⟩ := hb i x hx
  subst hsy
  refine lx_nil ?_
  refine wk_seq ?_
  refine wk_cond_t rfl ?_
  refine wk_skip ?_
  refine wk_seq ?_
  refine wk_block ?_
  refine wk_seq ?_
  refine wk_region ?_
  refine lx_value (want rfl) (mv_int hs1_17) ?_
  refine lx_value (want rfl) (rn_index _ Tryz.underlying71 sz_76 (A1.at 15 rfl rfl) hs1_17 rfl (by omega)) ?_
  refine lx_value (want rfl) (rn_load1 ag_76 rfl (F1.cell (fun h => h) hcx)) ?_
  refine lx_value (want rfl) (as_int rfl) ?_
  refine lx_value (want rfl) (as_slice rfl) ?_
  refine lx_nil ?_
  refine wk_seq ?_
  refine wk_region ?_
  refine lx_value (want rfl) (mv_slice (A1.at 1 rfl rfl)) ?_
  refine lx_value (want rfl) (mv_int rfl) ?_
  refine lx_value (want rfl) (rn_index _ Tryz.underlying71 sz_76 rfl rfl rfl (by omega)) ?_
  refine lx_value (want rfl) (rn_load1 ag_76 rfl (F1.cell (fun h => h) hcy)) ?_
  refine lx_value (want rfl) (as_slice rfl) ?_
  refine lx_nil ?_
  refine wk_seq ?_
  refine wk_region ?_
  refine lx_value (want rfl) (mv_func (A1.at 2 rfl rfl)) ?_
  refine lx_value (want rfl) (mv_slice rfl) ?_
  refine lx_value (want rfl) (mv_slice rfl) ?_
  refine lx_call (want rfl) (ent_value cf_151 rfl (argsC (t_slice rfl) (argsC (t_slice rfl) args0))) (equald_ct x sx sy cx cy Fa Fb (smallD_at hsm hx) w1 (hdx.fr (ds_stab _) F1 (fun _ _ h => h)) (hdy.fr (ds_stab _) F1 (fun _ _ h => h))) ?_
  rintro _ w2 E1 rfl
  have F2 := F1.ext E1
  have hz1 := E1.size
  refine lx_value (want rfl) (rn_not rfl) ?_
  refine lx_nil ?_
  refine wk_cond_f rfl ?_
  refine wk_skip ?_
  refine wk_region ?_
  refine lx_value (want rfl) (rn_add hs1_17 rfl (by omega)) ?_
  refine lx_value (want rfl) (mv_int rfl) ?_
  refine lx_nil ?_
  exact ⟨rfl, ((((((((((((((((((A1.up rfl _).up rfl _).up rfl _).up rfl _).up rfl _).up rfl _).up rfl _).up rfl _).up rfl _).up rfl _).up rfl _).up rfl _).up rfl _).up rfl _).up rfl _).up rfl _).up rfl _).up rfl _), (Fr.ext EL1 E1), _, (by omega), i + 1, rfl, rfl, by omega⟩
 ·
  refine lx_nil ?_
  refine wk_seq ?_
  refine wk_cond_f rfl ?_
  refine wk_exit ?_
  refine wk_seq ?_
  refine wk_region ?_
  refine lx_value (want rfl) (as_bool rfl) ?_
  refine lx_nil ?_
  refine wk_ret ?_
  refine retR1 Tryz.results155 (.tmp (t_bool rfl)) F1 ?_
  exact rfl

theorem isname_ct (nm : ByteArray) (hn : nameB nm = true) (w0 : World) :
  CT Tryz.prog 138 [.string nm] w0 no (fun v _ => v = .bool true) := by
 obtain ⟨hsz, ⟨c, hc, hc1, hc2⟩, htr⟩ := nameB_parts hn
 have F0 := Fr.refl no w0
 refine ct_body Tryz.func138 rfl Tryz.ntmps138 (Nat.le_of_ble_eq_true rfl) ?_
 refine wk_seq ?_
 refine wk_region ?_
 refine lx_value (want rfl) (as_bool rfl) ?_
 refine lx_nil ?_
 refine wk_seq ?_
 refine wk_region ?_
 refine lx_value (want rfl) (mv_string rfl) ?_
 refine lx_value (want rfl) (rn_lenS Tryz.underlying9 rfl) ?_
 refine lx_call (want rfl) (ent_func cf_139 (argsC (t_int rfl) (argsC (t_int rfl) (argsC (t_int rfl) args0)))) (kwithin_ct _ _ _ w0) ?_
 rintro _ w1 E1 rfl
 have F1 := F0.ext E1
 have hz1 := E1.size
 refine lx_b_t ((decide_eq_true (by omega))) ?_
 refine lx_value (want rfl) (mv_bool rfl) ?_
 refine lx_value (want_if (j := 3) (d := 6) (x := true) (y := true) rfl rfl (by decide) rfl) (mv_string rfl) ?_
 refine lx_value (want_if (j := 3) (d := 6) (x := true) (y := true) rfl rfl (by decide) rfl) (rn_byteAt 0 Tryz.underlying9 rfl rfl rfl hc) ?_
 refine lx_value (want_if (j := 3) (d := 6) (x := true) (y := true) rfl rfl (by decide) rfl) (rn_geq rfl rfl) ?_
 refine lx_dec_t ((by omega)) ?_
 refine lx_value (want rfl) (pick_t rfl rfl) ?_
 refine lx_value (want rfl) (mv_bool rfl) ?_
 refine lx_value (want_if (j := 8) (d := 11) (x := true) (y := true) rfl rfl (by decide) rfl) (mv_string rfl) ?_
 refine lx_value (want_if (j := 8) (d := 11) (x := true) (y := true) rfl rfl (by decide) rfl) (rn_byteAt 0 Tryz.underlying9 rfl rfl rfl hc) ?_
 refine lx_value (want_if (j := 8) (d := 11) (x := true) (y := true) rfl rfl (by decide) rfl) (rn_leq rfl rfl) ?_
 refine lx_dec_t ((by omega)) ?_
 refine lx_value (want rfl) (pick_t rfl rfl) ?_
 refine lx_value (want rfl) (mv_bool rfl) ?_
 refine lx_value (want_if (j := 13) (d := 16) (x := true) (y := true) rfl rfl (by decide) rfl) (mv_string rfl) ?_
 refine lx_call (want_if (j := 13) (d := 16) (x := true) (y := true) rfl rfl (by decide) rfl) (ent_func cf_156 (argsC (t_string rfl) (argsC (t_string rfl) args0))) ((trim_ct nm ⟨#[46, 48, 49, 50, 51, 52, 53, 54, 55, 56, 57, 97, 98, 99, 100, 101, 102, 103, 104, 105, 106, 107, 108, 109, 110, 111, 112, 113, 114, 115, 116, 117, 118, 119, 120, 121, 122]⟩ (by omega) (by decide) (by decide +kernel) w1)) ?_
 rintro _ w2 E2 rfl
 have F2 := F1.ext E2
 have hz2 := E2.size
 refine lx_value (want_if (j := 13) (d := 16) (x := true) (y := true) rfl rfl (by decide) rfl) (rn_eqlS rfl rfl) ?_
 refine lx_value (want rfl) (pick_t rfl rfl) ?_
 refine lx_value (want rfl) (as_bool rfl) ?_
 refine lx_nil ?_
 refine wk_ret ?_
 refine retR1 Tryz.results138 (.tmp (t_bool rfl)) F2 ?_
 exact congrArg Value.bool (decide_eq_true (by rw [htr]))

theorem find1_ct (x : Ent) (s : Option Addr) (c : Nat) (q : Ds) (bq : Nat) (w0 : World) (hq : Blk w0 bq [.int .i64 q.1, .int .i64 q.2] 23) :
  CT Tryz.prog 73 [.agg #[.int .i64 x.ctx, .int .i64 x.at_, .slice s x.ports.length c], .pointer (some ⟨bq, 0, none⟩)] w0 no (fun v _ => v = .bool (atP q x)) := by
 have F0 := Fr.refl no w0
 refine ct_body Tryz.func73 rfl Tryz.ntmps73 (Nat.le_of_ble_eq_true rfl) ?_
 refine wk_seq ?_
 refine wk_region ?_
 refine lx_new (want rfl) (rn_box (t_agg rfl)) ?_
 intro b21 w1 hb21 Eb21 B21 hlb21
 have F1 := F0.ext Eb21
 have hzb21 := Eb21.size
 refine lx_value (want rfl) (as_bool rfl) ?_
 refine lx_nil ?_
 refine wk_seq ?_
 refine wk_mix 3 (fun kS => match kS with | 1 => .val (.agg #[.int .i64 x.ctx, .int .i64 x.at_]) | _ => .none) (by kernel_rfl) (by kernel_rfl) (by intro kS G hk; (try dsimp only at hk); (split at hk) <;> first | (cases hk; done) | (injection hk with hk; subst hk; exact ⟨by intro j hkj I v w w' hR hG; first | exact hG, fun ⟨_, _, _, _, hs⟩ => by (try dsimp only at hs); split at hs <;> cases hs⟩)) (by intro kS s y G hk; (try dsimp only at hk); split at hk <;> cases hk) ?_
 simp only [List.take_succ_cons, List.take_zero, List.take_nil, List.drop_succ_cons, List.drop_zero, List.drop_nil]
 refine mx_calm rfl (want rfl) (fun u1 eu1 fu1 => rn_loadBlk ag_55 sz_55 rfl (B21.ext ((ext_drawn _).trans' eu1)) rfl rfl) ?_
 refine mx_val rfl (want rfl) (fun u2 eu2 fu2 => do_call (ent_func cf_48 (argsC (t_agg rfl) args0)) (point_ct x s c u2) (fun _ _ E h => ⟨E, h⟩)) ?_
 refine mx_calm rfl (want rfl) (fun u3 eu3 fu3 => rn_loadBlk ag_23 sz_23 rfl ((hq.ext Eb21).ext ((ext_drawn _).trans' eu3)) rfl rfl) ?_
 refine mx_nil (fun w2 E1' H1 HS => ?_)
 have E1 := (ext_drawn _).trans' E1'
 have F2 := F1.ext E1
 have hz1 := E1.size
 refine lx_value (want rfl) (rn_cmpS (t_agg rfl) (t_agg rfl) (geql_23 _ _ _ _) (eql_23 _ _ _ _)) ?_
 refine lx_value (want rfl) (as_bool rfl) ?_
 refine lx_nil ?_
 refine wk_ret ?_
 refine retR1 Tryz.results73 (.tmp (t_bool rfl)) F2 ?_
 exact rfl

theorem cvalue_ct (v : Vl) (hv : intB v) (n : Int) (w0 : World) :
  CT Tryz.prog 76 [vlV v, .int .i64 n] w0 no (fun u _ => u = .bool true) := by
 obtain ⟨hk, hlo, hhi⟩ := hv
 have F0 := Fr.refl no w0
 refine ct_body Tryz.func76 rfl Tryz.ntmps76 (Nat.le_of_ble_eq_true rfl) ?_
 refine wk_seq ?_
 refine wk_region ?_
 refine lx_new (want rfl) (rn_box (t_agg rfl)) ?_
 intro b1 w1 hb1 Eb1 B1 hlb1
 have F1 := F0.ext Eb1
 have hzb1 := Eb1.size
 refine lx_value (want rfl) (as_bool rfl) ?_
 refine lx_nil ?_
 refine wk_seq ?_
 refine wk_seq ?_
 refine wk_region ?_
 refine lx_value (want rfl) (rn_fieldAddr fa_48_0 rfl) ?_
 refine lx_value (want rfl) (rn_load1Blk ag_5 rfl B1 rfl) ?_
 refine lx_nil ?_
 refine wk_block ?_
 refine wk_seq ?_
 refine wk_seq ?_
 refine wk_region ?_
 refine lx_value (want rfl) (rn_eql rfl rfl) ?_
 refine lx_dec_f ((by omega)) ?_
 refine lx_value (want rfl) (as_bool rfl) ?_
 refine lx_nil ?_
 refine wk_cond_f rfl ?_
 refine wk_region ?_
 refine lx_value (want rfl) (rn_eql rfl rfl) ?_
 refine lx_dec_f ((by omega)) ?_
 refine lx_value (want rfl) (as_bool rfl) ?_
 refine lx_nil ?_
 refine wk_cond_f rfl ?_
 refine wk_seq ?_
 refine wk_region ?_
 refine lx_value (want rfl) (rn_eql rfl rfl) ?_
 refine lx_dec_t ((by omega)) ?_
 refine lx_value (want rfl) (as_bool rfl) ?_
 refine lx_nil ?_
 refine wk_cond_t rfl ?_
 refine wk_seq ?_
 refine wk_region ?_
 refine lx_value (want rfl) (rn_fieldAddr fa_48_1 rfl) ?_
 refine lx_value (want rfl) (rn_load1Blk ag_3 rfl B1 rfl) ?_
 refine lx_call (want rfl) (ent_func cf_110 (argsC (t_int rfl) (argsC (t_int rfl) (argsC (t_int rfl) args0)))) (cwithin_ct _ _ _ w1) ?_
 rintro _ w2 E1 rfl
 have F2 := F1.ext E1
 have hz1 := E1.size
 refine lx_value (want rfl) (as_bool rfl) ?_
 refine lx_nil ?_
 refine wk_ret ?_
 refine retR1 Tryz.results76 (.tmp (t_bool rfl)) F2 ?_
 exact congrArg Value.bool (decide_eq_true (by omega))

theorem containse_ct (l : List Ent) (s : Option Addr) (c : Nat) (F : Nat → Prop) (fid : FuncId) (bnd caps : List Value) (q : Ent → Bool) (hcf : ∀ args w, (callFunc fid args).run Tryz.prog w = .ok (.enter fid args) w) (w0 : World) (hl : EnS F w0 s l) (hb : l.length ≤ 2000) (hq : ∀ z so co w, z ∈ l → VlS F w so z.ports → Ext w0 w → CT Tryz.prog fid (bnd ++ [.agg #[.int .i64 z.ctx, .int .i64 z.at_, .slice so z.ports.length co]] ++ caps) w no (fun v _ => v = .bool (q z))) :
  CT Tryz.prog 106 [.slice s l.length c, .func (.func fid) bnd.toArray caps.toArray] w0 no (fun v _ => v = .bool (l.any q)) := by
 have F0 := Fr.refl no w0
 refine ct_body Tryz.func106 rfl Tryz.ntmps106 (Nat.le_of_ble_eq_true rfl) ?_
 refine wk_seq ?_
 refine wk_region ?_
 refine lx_value (want rfl) (as_bool rfl) ?_
 refine lx_nil ?_
 refine wk_seq ?_
 refine wk_region ?_
 refine lx_value (want rfl) (mv_slice rfl) ?_
 refine lx_value (want rfl) (mv_func rfl) ?_
 refine lx_call (want rfl) (ent_func cf_72 (argsC (t_slice rfl) (argsC (t_func rfl) args0))) (indexe_ct l _ _ F fid bnd caps q hcf w0 (hl.fr (en_stab _) F0 (fun _ _ h => h)) hb (fun z so co w hz hv E => hq z so co w hz hv (F0.trans' E))) ?_
 rintro _ w1 E1 ⟨iz, rfl, hiz⟩
 have F1 := F0.ext E1
 have hz1 := E1.size
 refine lx_value (want rfl) (rn_geq rfl rfl) ?_
 refine lx_value (want rfl) (as_bool rfl) ?_
 refine lx_nil ?_
 refine wk_ret ?_
 refine retR1 Tryz.results106 (.tmp (t_bool rfl)) F1 ?_
 exact congrArg Value.bool hiz.any

theorem containst_ct (l : List Tok) (s : Option Addr) (c : Nat) (F : Nat → Prop) (fid : FuncId) (bnd caps : List Value) (q : Tok → Bool) (hcf : ∀ args w, (callFunc fid args).run Tryz.prog w = .ok (.enter fid args) w) (w0 : World) (hl : TkS F w0 s l) (hb : l.length ≤ 2000) (hq : ∀ z w, z ∈ l → Ext w0 w → CT Tryz.prog fid (bnd ++ [.agg #[.int .i64 z.1, .int .i64 z.2.1, .int .i64 z.2.2.1, .int .u8 z.2.2.2.1, .int .i64 z.2.2.2.2]] ++ caps) w no (fun v _ => v = .bool (q z))) :
  CT Tryz.prog 118 [.slice s l.length c, .func (.func fid) bnd.toArray caps.toArray] w0 no (fun v _ => v = .bool (l.any q)) := by
 have F0 := Fr.refl no w0
 refine ct_body Tryz.func118 rfl Tryz.ntmps118 (Nat.le_of_ble_eq_true rfl) ?_
 refine wk_seq ?_
 refine wk_region ?_
 refine lx_value (want rfl) (as_bool rfl) ?_
 refine lx_nil ?_
 refine wk_seq ?_
 refine wk_region ?_
 refine lx_value (want rfl) (mv_slice rfl) ?_
 refine lx_value (want rfl) (mv_func rfl) ?_
 refine lx_call (want rfl) (ent_func cf_133 (argsC (t_slice rfl) (argsC (t_func rfl) args0))) (indext_ct l _ _ F fid bnd caps q hcf w0 (hl.fr (tk_stab _) F0 (fun _ _ h => h)) hb (fun z w hz  E => hq z w hz  (F0.trans' E))) ?_
 rintro _ w1 E1 ⟨iz, rfl, hiz⟩
 have F1 := F0.ext E1
 have hz1 := E1.size
 refine lx_value (want rfl) (rn_geq rfl rfl) ?_
 refine lx_value (want rfl) (as_bool rfl) ?_
 refine lx_nil ?_
 refine wk_ret ?_
 refine retR1 Tryz.results118 (.tmp (t_bool rfl)) F1 ?_
 exact congrArg Value.bool hiz.any

theorem containsn_ct (l : List Ins) (s : Option Addr) (c : Nat) (F : Nat → Prop) (fid : FuncId) (caps : List Value) (q : Ins → Bool) (hcf : ∀ args w, (callFunc fid args).run Tryz.prog w = .ok (.enter fid args) w) (w0 : World) (hl : InS F w0 s l) (hb : l.length ≤ 1000) (hq : ∀ z so co w, z ∈ l → Ext w0 w → CT Tryz.prog fid (.agg #[.int .u8 z.op, .string z.nm, .int .i64 z.n, .slice so z.outs.length co] :: caps) w no (fun v _ => v = .bool (q z))) :
  CT Tryz.prog 152 [.slice s l.length c, .func (.func fid) #[] caps.toArray] w0 no (fun v _ => v = .bool (l.any q)) := by
 have F0 := Fr.refl no w0
 refine ct_body Tryz.func152 rfl Tryz.ntmps152 (Nat.le_of_ble_eq_true rfl) ?_
 refine wk_seq ?_
 refine wk_region ?_
 refine lx_value (want rfl) (as_bool rfl) ?_
 refine lx_nil ?_
 refine wk_seq ?_
 refine wk_region ?_
 refine lx_value (want rfl) (mv_slice rfl) ?_
 refine lx_value (want rfl) (mv_func rfl) ?_
 refine lx_call (want rfl) (ent_func cf_158 (argsC (t_slice rfl) (argsC (t_func rfl) args0))) (indexn_ct l _ _ _ fid caps q hcf w0 (hl.fr (in_stab _) F0 (fun _ _ h => h)) hb (fun z so co w hz E => hq z so co w hz (F0.trans' E))) ?_
 rintro _ w1 E1 ⟨iz, rfl, hiz⟩
 have F1 := F0.ext E1
 have hz1 := E1.size
 refine lx_value (want rfl) (rn_geq rfl rfl) ?_
 refine lx_value (want rfl) (as_bool rfl) ?_
 refine lx_nil ?_
 refine wk_ret ?_
 refine retR1 Tryz.results152 (.tmp (t_bool rfl)) F1 ?_
 exact congrArg Value.bool hiz.any

theorem containsi_ct (l : List Int) (s : Option Addr) (c : Nat) (F : Nat → Prop) (fid : FuncId) (caps : List Value) (q : Int → Bool) (hcf : ∀ args w, (callFunc fid args).run Tryz.prog w = .ok (.enter fid args) w) (w0 : World) (hl : Sl F w0 s 1 l (Fl intC)) (hb : l.length ≤ 1000) (hq : ∀ z w, z ∈ l → Ext w0 w → CT Tryz.prog fid (.int .i64 z :: caps) w no (fun v _ => v = .bool (q z))) :
  CT Tryz.prog 20 [.slice s l.length c, .func (.func fid) #[] caps.toArray] w0 no (fun v _ => v = .bool (l.any q)) := by
 have F0 := Fr.refl no w0
 refine ct_body Tryz.func20 rfl Tryz.ntmps20 (Nat.le_of_ble_eq_true rfl) ?_
 refine wk_seq ?_
 refine wk_region ?_
 refine lx_value (want rfl) (as_bool rfl) ?_
 refine lx_nil ?_
 refine wk_seq ?_
 refine wk_region ?_
 refine lx_value (want rfl) (mv_slice rfl) ?_
 refine lx_value (want rfl) (mv_func rfl) ?_
 refine lx_call (want rfl) (ent_func cf_33 (argsC (t_slice rfl) (argsC (t_func rfl) args0))) (indexi_ct l _ _ _ fid caps q hcf w0 (hl.fr (int_stab _) F0 (fun _ _ h => h)) hb (fun z w hz E => hq z w hz (F0.trans' E))) ?_
 rintro _ w1 E1 ⟨iz, rfl, hiz⟩
 have F1 := F0.ext E1
 have hz1 := E1.size
 refine lx_value (want rfl) (rn_geq rfl rfl) ?_
 refine lx_value (want rfl) (as_bool rfl) ?_
 refine lx_nil ?_
 refine wk_ret ?_
 refine retR1 Tryz.results20 (.tmp (t_bool rfl)) F1 ?_
 exact congrArg Value.bool hiz.any

theorem containsv_ct (l : List Vl) (s : Option Addr) (c : Nat) (F : Nat → Prop) (fid : FuncId) (caps : List Value) (q : Vl → Bool) (hcf : ∀ args w, (callFunc fid args).run Tryz.prog w = .ok (.enter fid args) w) (w0 : World) (hl : VlS F w0 s l) (hb : l.length ≤ 1000) (hq : ∀ z w, z ∈ l → Ext w0 w → CT Tryz.prog fid (vlV z :: caps) w no (fun v _ => v = .bool (q z))) :
  CT Tryz.prog 74 [.slice s l.length c, .func (.func fid) #[] caps.toArray] w0 no (fun v _ => v = .bool (l.any q)) := by
 have F0 := Fr.refl no w0
 refine ct_body Tryz.func74 rfl Tryz.ntmps74 (Nat.le_of_ble_eq_true rfl) ?_
 refine wk_seq ?_
 refine wk_region ?_
 refine lx_value (want rfl) (as_bool rfl) ?_
 refine lx_nil ?_
 refine wk_seq ?_
 refine wk_region ?_
 refine lx_value (want rfl) (mv_slice rfl) ?_
 refine lx_value (want rfl) (mv_func rfl) ?_
 refine lx_call (want rfl) (ent_func cf_79 (argsC (t_slice rfl) (argsC (t_func rfl) args0))) (indexv_ct l _ _ _ fid caps q hcf w0 (hl.fr (vl_stab _) F0 (fun _ _ h => h)) hb (fun z w hz E => hq z w hz (F0.trans' E))) ?_
 rintro _ w1 E1 ⟨iz, rfl, hiz⟩
 have F1 := F0.ext E1
 have hz1 := E1.size
 refine lx_value (want rfl) (rn_geq rfl rfl) ?_
 refine lx_value (want rfl) (as_bool rfl) ?_
 refine lx_nil ?_
 refine wk_ret ?_
 refine retR1 Tryz.results74 (.tmp (t_bool rfl)) F1 ?_
 exact congrArg Value.bool hiz.any

theorem operands_ct (nm : ByteArray) (w0 : World) :
  CT Tryz.prog 35 [.string nm] w0 no (fun v _ => v = .int .i64 (arS nm : Nat)) := by
 have F0 := Fr.refl no w0
 refine ct_body Tryz.func35 rfl Tryz.ntmps35 (Nat.le_of_ble_eq_true rfl) ?_
 refine wk_seq ?_
 refine wk_region ?_
 refine lx_value (want rfl) (as_int rfl) ?_
 refine lx_nil ?_
 refine wk_seq ?_
 refine wk_region ?_
 refine lx_call (want rfl) (ent_func cf_62 args0) (operations_ct w0) ?_
 rintro _ w1 E1 ⟨bO, bI, bE, bN, rfl, hMO, hBI, hBE, hBN⟩
 have F1 := F0.ext E1
 have hz1 := E1.size
 refine lx_value (want rfl) (mv_string rfl) ?_
 obtain ⟨slO, fnO, hvO⟩ := opsL_ar bI bE bN nm
 refine lx_value (v := .agg #[.int .i64 (arS nm : Nat), slO, fnO]) (want rfl) ((by rw [← hvO]; exact rn_lookL (k := nm) mv_135.g rfl rfl hMO)) ?_
 refine lx_value (want rfl) (rn_field rfl (fun w => (show (Instr.field 134 (.agg #[.int .i64 (arS nm : Nat), slO, fnO]) 0).run Tryz.prog w = .ok (.int .i64 (arS nm : Nat)) w by kernel_rfl))) ?_
 refine lx_value (want rfl) (as_int rfl) ?_
 refine lx_nil ?_
 refine wk_ret ?_
 refine retR1 Tryz.results35 (.tmp (t_int rfl)) F1 ?_
 exact rfl

theorem lt_ct (a b : Int) (w0 : World) :
  CT Tryz.prog 100 [.int .i64 a, .int .i64 b] w0 no (fun u _ => u = .agg #[.int .u8 2, .int .i64 (if decide (a < b) = true then 1 else 0)]) := by
 have F0 := Fr.refl no w0
 refine ct_body Tryz.func100 rfl Tryz.ntmps100 (Nat.le_of_ble_eq_true rfl) ?_
 refine wk_seq ?_
 refine wk_region ?_
 refine lx_new (want rfl) (rn_alloc ze_48) ?_
 intro b1 w1 hb1 Eb1 B1 hlb1
 have F1 := F0.ext Eb1
 have hzb1 := Eb1.size
 refine lx_nil ?_
 refine wk_seq ?_
 refine wk_region ?_
 refine lx_value (want rfl) (mv_int rfl) ?_
 refine lx_value (want rfl) (mv_int rfl) ?_
 refine lx_value (want rfl) (rn_lss rfl rfl) ?_
 refine lx_call (want rfl) (ent_func cf_101 (argsC (t_bool rfl) args0)) (ctruth_ct _ w1) ?_
 rintro _ w2 E1 rfl
 have F2 := F1.ext E1
 have hz1 := E1.size
 refine lx_set (want rfl) sz_48 rfl (t_agg rfl) rfl rfl rfl (B1.ext E1) (Nat.le_of_ble_eq_true rfl) ?_
 intro w3 Es1 Bs1
 have F3 := F2.set Es1 (by omega)
 have hzs1 := Es1.size
 refine lx_nil ?_
 refine wk_ret ?_
 refine retR1 Tryz.results100 (.cell rfl (run_loadVar_blk ag_48 sz_48 Bs1 rfl rfl)) F3 ?_
 exact rfl

theorem nodes1_ct (x : Ins) (so : Option Addr) (co : Nat) (w0 : World) :
  CT Tryz.prog 159 [.agg #[.int .u8 x.op, .string x.nm, .int .i64 x.n, .slice so x.outs.length co]] w0 no (fun v _ => v = .bool (!isNodeB x)) := by
 have F0 := Fr.refl no w0
 refine ct_body Tryz.func159 rfl Tryz.ntmps159 (Nat.le_of_ble_eq_true rfl) ?_
 refine wk_seq ?_
 refine wk_region ?_
 refine lx_new (want rfl) (rn_box (t_agg rfl)) ?_
 intro b1 w1 hb1 Eb1 B1 hlb1
 have F1 := F0.ext Eb1
 have hzb1 := Eb1.size
 refine lx_value (want rfl) (as_bool rfl) ?_
 refine lx_nil ?_
 refine wk_seq ?_
 refine wk_region ?_
 refine lx_value (want rfl) (rn_loadBlk ag_73 sz_73 rfl B1 rfl rfl) ?_
 refine lx_call (want rfl) (ent_func cf_136 (argsC (t_agg rfl) args0)) (isnode_ct _ _ _ w1) ?_
 rintro _ w2 E1 rfl
 have F2 := F1.ext E1
 have hz1 := E1.size
 refine lx_value (want rfl) (rn_not rfl) ?_
 refine lx_value (want rfl) (as_bool rfl) ?_
 refine lx_nil ?_
 refine wk_ret ?_
 refine retR1 Tryz.results159 (.tmp (t_bool rfl)) F2 ?_
 exact rfl

theorem containsk_ct (b : Nat) (k : Int) (w0 : World) (hB : Blk w0 b [.int .u8 k] 5) :
  CT Tryz.prog 114 [.slice (some ⟨b, 0, none⟩) 1 1, .int .u8 k] w0 no (fun v _ => v = .bool true) := by
 have F0 := Fr.refl no w0
 refine ct_body Tryz.func114 rfl Tryz.ntmps114 (Nat.le_of_ble_eq_true rfl) ?_
 refine wk_seq ?_
 refine wk_region ?_
 refine lx_value (want rfl) (as_bool rfl) ?_
 refine lx_nil ?_
 refine wk_seq ?_
 refine wk_region ?_
 refine lx_value (want rfl) (mv_slice rfl) ?_
 refine lx_value (want rfl) (mv_int rfl) ?_
 refine lx_call (want rfl) (ent_func cf_132 (argsC (t_slice rfl) (argsC (t_int rfl) args0))) (indexk_ct b k w0 (hB.fr F0 (fun h => h))) ?_
 rintro _ w1 E1 rfl
 have F1 := F0.ext E1
 have hz1 := E1.size
 refine lx_value (want rfl) (rn_geq rfl rfl) ?_
 refine lx_value (want rfl) (as_bool rfl) ?_
 refine lx_nil ?_
 refine wk_ret ?_
 refine retR1 Tryz.results114 (.tmp (t_bool rfl)) F1 ?_
 exact rfl

theorem containsp_ct (fn : Fn) (bs cs : Array Value) (w0 : World) :
  CT Tryz.prog 108 [.slice none 0 0, .func fn bs cs] w0 no (fun v _ => v = .bool false) := by
 have F0 := Fr.refl no w0
 refine ct_body Tryz.func108 rfl Tryz.ntmps108 (Nat.le_of_ble_eq_true rfl) ?_
 refine wk_seq ?_
 refine wk_region ?_
 refine lx_value (want rfl) (as_bool rfl) ?_
 refine lx_nil ?_
 refine wk_seq ?_
 refine wk_region ?_
 refine lx_value (want rfl) (mv_slice rfl) ?_
 refine lx_value (want rfl) (mv_func rfl) ?_
 refine lx_call (want rfl) (ent_func cf_131 (argsC (t_slice rfl) (argsC (t_func rfl) args0))) (indexp_ct _ _ _ w0) ?_
 rintro _ w1 E1 rfl
 have F1 := F0.ext E1
 have hz1 := E1.size
 refine lx_value (want rfl) (rn_geq rfl rfl) ?_
 refine lx_value (want rfl) (as_bool rfl) ?_
 refine lx_nil ?_
 refine wk_ret ?_
 refine retR1 Tryz.results108 (.tmp (t_bool rfl)) F1 ?_
 exact rfl

end Go.Proofs.YtgnnegfnpgnbbaaGreatDoor

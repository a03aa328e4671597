/- What functions compute: kright, tail, execa. -/
import Derived.Test.YtgnnegfnpgnbbaaGreatDoorHomesFacts
import Derived.Test.YtgnnegfnpgnbbaaGreatDoorHomesPre
import Derived.Test.YtgnnegfnpgnbbaaGreatDoorHomesWalk1
import Derived.Test.YtgnnegfnpgnbbaaGreatDoorHomesWalk10
import Derived.Test.YtgnnegfnpgnbbaaGreatDoorHomesWalk3
import Derived.Test.YtgnnegfnpgnbbaaGreatDoorHomesWalk4
import Derived.Test.YtgnnegfnpgnbbaaGreatDoorHomesWalk6
import Derived.Test.YtgnnegfnpgnbbaaGreatDoorHomesWalk8
import Derived.Test.YtgnnegfnpgnbbaaGreatDoorHomesWalk9
set_option maxRecDepth 100000
set_option linter.unusedVariables false
set_option linter.unusedSimpArgs false
namespace Go.Proofs.YtgnnegfnpgnbbaaGreatDoor
open Go Go.RowKit Go.Mix Go.Eng
set_option maxRecDepth 100000 in
theorem kright_ct (F : Nat → Prop) (l : List Sg) (b : Nat) (x : Ins) (so : Option Addr) (co : Nat) (hsm : smallG l = true) (hok : okN l x = true) (hr : rightB l x = true) (w0 : World) (hp : PrgO F w0 b l) :
  CT Tryz.prog 142 [.pointer (some ⟨b, 0, none⟩), .agg #[.int .u8 x.op, .string x.nm, .int .i64 x.n, .slice so x.outs.length co]] w0 no (fun v _ => v = .bool true) := by
 have hp0 := hp
 obtain ⟨sl, cl, ba, bs, hB, hA, hSh, hL, hFb, hFa, hFs⟩ := hp
 obtain ⟨hsh, hnd, hcs⟩ := rightB_parts hr
 have F0 := Fr.refl no w0
 refine ct_body Tryz.func142 rfl Tryz.ntmps142 (Nat.le_of_ble_eq_true rfl) ?_
 refine wk_seq ?_
 refine wk_region ?_
 refine lx_new (want rfl) (rn_box (t_agg rfl)) ?_
 intro b21 w1 hb21 Eb21 B21 hlb21
 have F1 := F0.ext Eb21
 have hzb21 := Eb21.size
 refine lx_value (want rfl) (as_bool rfl) ?_
 refine lx_nil ?_
 refine wk_seq ?_
 refine wk_mix 12 (fun kS => match kS with | 10 => .any (fun I v w => v = .pointer (some ⟨I.1, 0, none⟩) ∧ w1.heap.size ≤ I.1 ∧ I.1 < I.2 ∧ Blk w I.1 [.string ⟨#[]⟩, .int .i64 0, .int .i64 0, .bool false, .bool false] 228) | 11 => .sto 5 17 (fun J u w => J.1 < J.2 ∧ Blk w J.1 u.cells.toList 228) | _ => .none) (by kernel_rfl) (by kernel_rfl) (by intro kS G hk; (try dsimp only at hk); (split at hk) <;> first | (cases hk; done) | (injection hk with hk; subst hk; exact ⟨by intro j hkj I v w w' hR hG; first | exact hG | (obtain ⟨h1, h2, hI, h3⟩ := hG; exact ⟨h1, h2, hI, h3.ext hR⟩), fun _ I v w w' hR hG => by first | exact hG | (obtain ⟨h1, h2, hI, h3⟩ := hG; exact ⟨h1, h2, hI, h3.fr hR (fun h => h.2 ⟨Nat.le_refl _, hI⟩)⟩)⟩)) (by intro kS s y G hk; (try dsimp only at hk); (split at hk) <;> first | (cases hk; done) | (injection hk with hk1 hk2 hk3; subst hk1; subst hk2; subst hk3; exact ⟨by kernel_rfl, by intro j hkj I v w w' hR hG; exact ⟨hG.1, hG.2.ext hR⟩, fun I v w w' hR hG => ⟨hG.1, hG.2.fr hR (fun h => h.2 ⟨Nat.le_refl _, hG.1⟩)⟩⟩)) ?_
 simp only [List.take_succ_cons, List.take_zero, List.take_nil, List.drop_succ_cons, List.drop_zero, List.drop_nil]
 refine mx_calm rfl (want rfl) (fun u1 eu1 fu1 => mv_pointer rfl) ?_
 refine mx_calm rfl (want rfl) (fun u2 eu2 fu2 => rn_nilCheck rfl) ?_
 refine mx_calm rfl (want rfl) (fun u3 eu3 fu3 => rn_fieldAddr fa_188_2 rfl) ?_
 refine mx_calm rfl (want rfl) (fun u4 eu4 fu4 => rn_load1Blk ag_186 rfl ((hB.ext Eb21).ext ((ext_drawn _).trans' eu4)) rfl) ?_
 refine mx_calm rfl (want rfl) (fun u5 eu5 fu5 => rn_fieldAddr fa_73_0 rfl) ?_
 refine mx_calm rfl (want rfl) (fun u6 eu6 fu6 => rn_load1Blk ag_5 rfl (B21.ext ((ext_drawn _).trans' eu6)) rfl) ?_
 refine mx_calm (v := .tuple #[.agg #[.string (shG x.op).1, .int .i64 (shG x.op).2.1, .int .i64 (shG x.op).2.2.1, .bool (shG x.op).2.2.2.1, .bool (shG x.op).2.2.2.2], .bool true]) rfl (want rfl) (fun u7 eu7 fu7 => (by have e := look_sh x.op; rw [hsh] at e; rw [← e]; exact rn_lookLOk (k := x.op) mv_186.g rfl rfl (hSh.fr (F1.ext ((ext_drawn _).trans' eu7)) (fun h => h)))) ?_
 refine mx_calm rfl (want rfl) (fun u8 eu8 fu8 => mv_tuple rfl) ?_
 refine mx_calm rfl (want rfl) (fun u9 eu9 fu9 => rn_extract rfl rfl) ?_
 refine mx_calm rfl (want rfl) (fun u10 eu10 fu10 => rn_extract rfl rfl) ?_
 refine mx_any rfl rfl (want rfl) (fun u11 eu11 fu11 => (do_new3 (rn_alloc ze_228) (show _ ≤ _ from (((ext_drawn _).trans' eu11)).size)).mono (fun v w' h => ⟨h.1, h.2⟩)) (fun I5 v5 => ?_)
 refine mx_sto rfl rfl rfl rfl (want rfl) (fun u12 eu12 fu12 _ => by obtain ⟨rfl, hl5, hi5, hB5⟩ := fu12 5 _ rfl (show (5 : Nat) ∈ _ from by decide); exact (do_sto sz_228 rfl rfl rfl rfl rfl hB5 rfl ⟨Nat.le_refl _, hi5⟩).mono (fun v w' h => ⟨h.1, h.2.1, hi5, h.2.2⟩)) ?_
 refine mx_nil (fun w2 E1' H1 HS => ?_)
 have E1 := (ext_drawn _).trans' E1'
 have F2 := F1.ext E1
 have hz1 := E1.size
 have hI5 := (HS.1 5 _ rfl).2
 simp only at hI5
 have g5 := H1 5 _ rfl
 obtain ⟨⟨_, hv5, hb5, _, _⟩, hi5, hB5⟩ := g5; subst hv5; have hlb5 := hB5.lt
 refine lx_value (want rfl) (as_bool rfl) ?_
 refine lx_nil ?_
 refine wk_seq ?_
 refine wk_seq ?_
 refine wk_region ?_
 refine lx_value (want rfl) (mv_bool rfl) ?_
 refine lx_value (want rfl) (rn_not rfl) ?_
 refine lx_value (want rfl) (mv_bool rfl) ?_
 refine lx_value (want_if (j := 2) (d := 21) (x := false) (y := false) rfl rfl (by decide) rfl) (rn_fieldAddr fa_228_3 rfl) ?_
 refine lx_value (want_if (j := 2) (d := 21) (x := false) (y := false) rfl rfl (by decide) rfl) (rn_load1Blk ag_4 rfl hB5 rfl) ?_
 refine lx_split (fun hn => ?_) (fun hn => ?_)
 ·
  refine lx_value (want_if (j := 2) (d := 21) (x := false) (y := false) rfl rfl (by decide) rfl) (rn_not rfl) ?_
  refine lx_value (want_if (j := 2) (d := 21) (x := false) (y := false) rfl rfl (by decide) rfl) (mv_bool rfl) ?_
  refine lx_skip (want_if (j := 6) (d := 25) (x := true) (y := false) rfl rfl (by decide) rfl) ?_
  refine lx_skip (want_if (j := 6) (d := 25) (x := true) (y := false) rfl rfl (by decide) rfl) ?_
  refine lx_skip (want_if (j := 6) (d := 25) (x := true) (y := false) rfl rfl (by decide) rfl) ?_
  refine lx_value (want_if (j := 2) (d := 21) (x := false) (y := false) rfl rfl (by decide) rfl) (pick_f rfl rfl) ?_
  refine lx_value (want rfl) (pick_f rfl rfl) ?_
  refine lx_nil ?_
  refine wk_cond_f rfl ?_
  refine wk_skip ?_
  refine wk_seq ?_
  refine wk_seq ?_
  refine wk_region ?_
  refine lx_value (want rfl) (rn_fieldAddr fa_73_0 rfl) ?_
  refine lx_value (want rfl) (rn_load1Blk ag_5 rfl (B21.ext E1) rfl) ?_
  refine lx_nil ?_
  refine wk_block ?_
  refine wk_seq ?_
  refine wk_region ?_
  refine lx_value (want rfl) (rn_eql rfl rfl) ?_
  refine lx_dec (fun h1 => ?_) (fun h1 => ?_)
  ·
   refine lx_value (want rfl) (as_bool rfl) ?_
   refine lx_nil ?_
   refine wk_cond_t rfl ?_
   refine wk_seq ?_
   refine wk_region ?_
   refine lx_value (want rfl) (rn_fieldAddr fa_73_2 rfl) ?_
   refine lx_value (want rfl) (rn_load1Blk ag_3 rfl (B21.ext E1) rfl) ?_
   refine lx_call (want rfl) (ent_func cf_139 (argsC (t_int rfl) (argsC (t_int rfl) (argsC (t_int rfl) args0)))) (kwithin_ct _ _ _ w2) ?_
   rintro _ w3 E2 rfl
   have F3 := F2.ext E2
   have hz2 := E2.size
   refine lx_value (want rfl) (as_bool rfl) ?_
   refine lx_nil ?_
   refine wk_ret ?_
   refine retR1 Tryz.results142 (.tmp (t_bool rfl)) F3 ?_
   first | exact rt_1 hcs h1 | exact rt_2 hcs h1 h2 | exact yes_true (rt_4 hcs h1 h2 h4).2 | exact rt_20 hcs h1 h2 h4 h20 | exact rt_0 hcs h1 h2 h4 h20
  ·
   refine lx_value (want rfl) (as_bool rfl) ?_
   refine lx_nil ?_
   refine wk_cond_f rfl ?_
   refine wk_seq ?_
   refine wk_region ?_
   refine lx_value (want rfl) (rn_eql rfl rfl) ?_
   refine lx_dec (fun h2 => ?_) (fun h2 => ?_)
   ·
    refine lx_value (want rfl) (as_bool rfl) ?_
    refine lx_nil ?_
    refine wk_cond_t rfl ?_
    refine wk_seq ?_
    refine wk_region ?_
    refine lx_value (want rfl) (rn_fieldAddr fa_73_2 rfl) ?_
    refine lx_value (want rfl) (rn_load1Blk ag_3 rfl (B21.ext E1) rfl) ?_
    refine lx_call (want rfl) (ent_func cf_139 (argsC (t_int rfl) (argsC (t_int rfl) (argsC (t_int rfl) args0)))) (kwithin_ct _ _ _ w2) ?_
    rintro _ w3 E3 rfl
    have F4 := F2.ext E3
    have hz3 := E3.size
    refine lx_value (want rfl) (as_bool rfl) ?_
    refine lx_nil ?_
    refine wk_ret ?_
    refine retR1 Tryz.results142 (.tmp (t_bool rfl)) F4 ?_
    first | exact rt_1 hcs h1 | exact rt_2 hcs h1 h2 | exact yes_true (rt_4 hcs h1 h2 h4).2 | exact rt_20 hcs h1 h2 h4 h20 | exact rt_0 hcs h1 h2 h4 h20
   ·
    refine lx_value (want rfl) (as_bool rfl) ?_
    refine lx_nil ?_
    refine wk_cond_f rfl ?_
    refine wk_seq ?_
    refine wk_region ?_
    refine lx_value (want rfl) (rn_eql rfl rfl) ?_
    refine lx_dec (fun h4 => ?_) (fun h4 => ?_)
    ·
     refine lx_value (want rfl) (as_bool rfl) ?_
     refine lx_nil ?_
     refine wk_cond_t rfl ?_
     refine wk_seq ?_
     refine wk_region ?_
     refine lx_value (want rfl) (rn_fieldAddr fa_73_2 rfl) ?_
     refine lx_value (want rfl) (rn_load1Blk ag_3 rfl (B21.ext E1) rfl) ?_
     refine lx_value (want rfl) (rn_eql rfl rfl) ?_
     refine lx_dec_t ((rt_4 hcs h1 h2 h4).1) ?_
     refine lx_value (want rfl) (mv_bool rfl) ?_
     refine lx_value (want_if (j := 3) (d := 48) (x := true) (y := true) rfl rfl (by decide) rfl) (rn_fieldAddr fa_73_1 rfl) ?_
     refine lx_value (want_if (j := 3) (d := 48) (x := true) (y := true) rfl rfl (by decide) rfl) (rn_load1Blk ag_9 rfl (B21.ext E1) rfl) ?_
     refine lx_call (want_if (j := 3) (d := 48) (x := true) (y := true) rfl rfl (by decide) rfl) (ent_func cf_35 (argsC (t_string rfl) args0)) (operands_ct _ w2) ?_
     rintro _ w3 E4 rfl
     have F5 := F2.ext E4
     have hz4 := E4.size
     refine lx_value (want_if (j := 3) (d := 48) (x := true) (y := true) rfl rfl (by decide) rfl) (rn_gtr rfl rfl) ?_
     refine lx_value (want rfl) (pick_t rfl rfl) ?_
     refine lx_value (want rfl) (as_bool rfl) ?_
     refine lx_nil ?_
     refine wk_ret ?_
     refine retR1 Tryz.results142 (.tmp (t_bool rfl)) F5 ?_
     first | exact rt_1 hcs h1 | exact rt_2 hcs h1 h2 | exact yes_true (rt_4 hcs h1 h2 h4).2 | exact rt_20 hcs h1 h2 h4 h20 | exact rt_0 hcs h1 h2 h4 h20
    ·
     refine lx_value (want rfl) (as_bool rfl) ?_
     refine lx_nil ?_
     refine wk_cond_f rfl ?_
     refine wk_seq ?_
     refine wk_region ?_
     refine lx_value (want rfl) (rn_eql rfl rfl) ?_
     refine lx_dec (fun h20 => ?_) (fun h20 => ?_)
     ·
      refine lx_value (want rfl) (as_bool rfl) ?_
      refine lx_nil ?_
      refine wk_cond_t rfl ?_
      refine wk_seq ?_
      refine wk_region ?_
      refine lx_value (want rfl) (mv_pointer rfl) ?_
      refine lx_value (want rfl) (rn_loadBlk ag_73 sz_73 rfl (B21.ext E1) rfl rfl) ?_
      have hokN := okN_at hok h20
      refine lx_call (want rfl) (ent_func cf_160 (argsC (t_pointer rfl) (argsC (t_agg rfl) args0))) (named_ct F l b x so co hsm hokN w2 (hp0.fr F2 (fun _ _ h => h))) ?_
      rintro _ w3 E5 ⟨ssC, csC, siC, ciC, rfl, hGC⟩
      have F6 := F2.ext E5
      have hz5 := E5.size
      refine lx_value (want rfl) (mv_tuple rfl) ?_
      refine lx_value (want rfl) (rn_extract rfl rfl) ?_
      refine lx_value (want rfl) (rn_extract rfl rfl) ?_
      refine lx_new (want rfl) (rn_alloc ze_181) ?_
      intro b22 w4 hb22 Eb22 B22 hlb22
      have F7 := F6.ext Eb22
      have hzb22 := Eb22.size
      refine lx_set (want rfl) sz_181 rfl (t_agg rfl) rfl rfl rfl B22 (Nat.le_of_ble_eq_true rfl) ?_
      intro w5 Es1 Bs1
      have F8 := F7.set Es1 (by omega)
      have hzs1 := Es1.size
      refine lx_value (want rfl) (as_bool rfl) ?_
      refine lx_nil ?_
      refine wk_seq ?_
      refine wk_region ?_
      refine lx_value (want rfl) (mv_bool rfl) ?_
      refine lx_value (want rfl) (mv_bool rfl) ?_
      refine lx_value (want_if (j := 1) (d := 63) (x := true) (y := true) rfl rfl (by decide) rfl) (rn_fieldAddr fa_73_2 rfl) ?_
      refine lx_value (want_if (j := 1) (d := 63) (x := true) (y := true) rfl rfl (by decide) rfl) (rn_load1Blk ag_3 rfl ((((B21.ext E1).ext E5).ext Eb22).ne Es1 (by omega)) rfl) ?_
      refine lx_call (want_if (j := 1) (d := 63) (x := true) (y := true) rfl rfl (by decide) rfl) (ent_func cf_139 (argsC (t_int rfl) (argsC (t_int rfl) (argsC (t_int rfl) args0)))) (kwithin_ct _ _ _ w5) ?_
      rintro _ w6 E6 rfl
      have F9 := F8.ext E6
      have hz6 := E6.size
      refine lx_value (want rfl) (pick_t rfl rfl) ?_
      refine lx_value (want rfl) (as_bool rfl) ?_
      refine lx_nil ?_
      refine wk_ret ?_
      refine retR1 Tryz.results142 (.tmp (t_bool rfl)) F9 ?_
      first | exact rt_1 hcs h1 | exact rt_2 hcs h1 h2 | exact yes_true (rt_4 hcs h1 h2 h4).2 | exact rt_20 hcs h1 h2 h4 h20 | exact rt_0 hcs h1 h2 h4 h20
     ·
      refine lx_value (want rfl) (as_bool rfl) ?_
      refine lx_nil ?_
      refine wk_cond_f rfl ?_
      refine wk_skip ?_
      refine wk_seq ?_
      refine wk_region ?_
      refine lx_value (want rfl) (rn_fieldAddr fa_73_2 rfl) ?_
      refine lx_value (want rfl) (rn_load1Blk ag_3 rfl (B21.ext E1) rfl) ?_
      refine lx_value (want rfl) (rn_eql rfl rfl) ?_
      refine lx_value (want rfl) (as_bool rfl) ?_
      refine lx_nil ?_
      refine wk_ret ?_
      refine retR1 Tryz.results142 (.tmp (t_bool rfl)) F2 ?_
      first | exact rt_1 hcs h1 | exact rt_2 hcs h1 h2 | exact yes_true (rt_4 hcs h1 h2 h4).2 | exact rt_20 hcs h1 h2 h4 h20 | exact rt_0 hcs h1 h2 h4 h20
 ·
  refine lx_value (want_if (j := 2) (d := 21) (x := false) (y := false) rfl rfl (by decide) rfl) (rn_not rfl) ?_
  refine lx_value (want_if (j := 2) (d := 21) (x := false) (y := false) rfl rfl (by decide) rfl) (mv_bool rfl) ?_
  refine lx_value (want_if (j := 6) (d := 25) (x := true) (y := true) rfl rfl (by decide) rfl) (rn_fieldAddr fa_73_1 rfl) ?_
  refine lx_value (want_if (j := 6) (d := 25) (x := true) (y := true) rfl rfl (by decide) rfl) (rn_load1Blk ag_9 rfl (B21.ext E1) rfl) ?_
  refine lx_value (want_if (j := 6) (d := 25) (x := true) (y := true) rfl rfl (by decide) rfl) (rn_neqBA rfl rfl) ?_
  refine lx_dec_f ((fun g => g (hnd.resolve_left (by rw [hn]; exact Bool.false_ne_true)))) ?_
  refine lx_value (want_if (j := 2) (d := 21) (x := false) (y := false) rfl rfl (by decide) rfl) (pick_t rfl rfl) ?_
  refine lx_value (want rfl) (pick_f rfl rfl) ?_
  refine lx_nil ?_
  refine wk_cond_f rfl ?_
  refine wk_skip ?_
  refine wk_seq ?_
  refine wk_seq ?_
  refine wk_region ?_
  refine lx_value (want rfl) (rn_fieldAddr fa_73_0 rfl) ?_
  refine lx_value (want rfl) (rn_load1Blk ag_5 rfl (B21.ext E1) rfl) ?_
  refine lx_nil ?_
  refine wk_block ?_
  refine wk_seq ?_
  refine wk_region ?_
  refine lx_value (want rfl) (rn_eql rfl rfl) ?_
  refine lx_dec (fun h1 => ?_) (fun h1 => ?_)
  ·
   refine lx_value (want rfl) (as_bool rfl) ?_
   refine lx_nil ?_
   refine wk_cond_t rfl ?_
   refine wk_seq ?_
   refine wk_region ?_
   refine lx_value (want rfl) (rn_fieldAddr fa_73_2 rfl) ?_
   refine lx_value (want rfl) (rn_load1Blk ag_3 rfl (B21.ext E1) rfl) ?_
   refine lx_call (want rfl) (ent_func cf_139 (argsC (t_int rfl) (argsC (t_int rfl) (argsC (t_int rfl) args0)))) (kwithin_ct _ _ _ w2) ?_
   rintro _ w3 E7 rfl
   have F10 := F2.ext E7
   have hz7 := E7.size
   refine lx_value (want rfl) (as_bool rfl) ?_
   refine lx_nil ?_
   refine wk_ret ?_
   refine retR1 Tryz.results142 (.tmp (t_bool rfl)) F10 ?_
   first | exact rt_1 hcs h1 | exact rt_2 hcs h1 h2 | exact yes_true (rt_4 hcs h1 h2 h4).2 | exact rt_20 hcs h1 h2 h4 h20 | exact rt_0 hcs h1 h2 h4 h20
  ·
   refine lx_value (want rfl) (as_bool rfl) ?_
   refine lx_nil ?_
   refine wk_cond_f rfl ?_
   refine wk_seq ?_
   refine wk_region ?_
   refine lx_value (want rfl) (rn_eql rfl rfl) ?_
   refine lx_dec (fun h2 => ?_) (fun h2 => ?_)
   ·
    refine lx_value (want rfl) (as_bool rfl) ?_
    refine lx_nil ?_
    refine wk_cond_t rfl ?_
    refine wk_seq ?_
    refine wk_region ?_
    refine lx_value (want rfl) (rn_fieldAddr fa_73_2 rfl) ?_
    refine lx_value (want rfl) (rn_load1Blk ag_3 rfl (B21.ext E1) rfl) ?_
    refine lx_call (want rfl) (ent_func cf_139 (argsC (t_int rfl) (argsC (t_int rfl) (argsC (t_int rfl) args0)))) (kwithin_ct _ _ _ w2) ?_
    rintro _ w3 E8 rfl
    have F11 := F2.ext E8
    have hz8 := E8.size
    refine lx_value (want rfl) (as_bool rfl) ?_
    refine lx_nil ?_
    refine wk_ret ?_
    refine retR1 Tryz.results142 (.tmp (t_bool rfl)) F11 ?_
    first | exact rt_1 hcs h1 | exact rt_2 hcs h1 h2 | exact yes_true (rt_4 hcs h1 h2 h4).2 | exact rt_20 hcs h1 h2 h4 h20 | exact rt_0 hcs h1 h2 h4 h20
   ·
    refine lx_value (want rfl) (as_bool rfl) ?_
    refine lx_nil ?_
    refine wk_cond_f rfl ?_
    refine wk_seq ?_
    refine wk_region ?_
    refine lx_value (want rfl) (rn_eql rfl rfl) ?_
    refine lx_dec (fun h4 => ?_) (fun h4 => ?_)
    ·
     refine lx_value (want rfl) (as_bool rfl) ?_
     refine lx_nil ?_
     refine wk_cond_t rfl ?_
     refine wk_seq ?_
     refine wk_region ?_
     refine lx_value (want rfl) (rn_fieldAddr fa_73_2 rfl) ?_
     refine lx_value (want rfl) (rn_load1Blk ag_3 rfl (B21.ext E1) rfl) ?_
     refine lx_value (want rfl) (rn_eql rfl rfl) ?_
     refine lx_dec_t ((rt_4 hcs h1 h2 h4).1) ?_
     refine lx_value (want rfl) (mv_bool rfl) ?_
     refine lx_value (want_if (j := 3) (d := 48) (x := true) (y := true) rfl rfl (by decide) rfl) (rn_fieldAddr fa_73_1 rfl) ?_
     refine lx_value (want_if (j := 3) (d := 48) (x := true) (y := true) rfl rfl (by decide) rfl) (rn_load1Blk ag_9 rfl (B21.ext E1) rfl) ?_
     refine lx_call (want_if (j := 3) (d := 48) (x := true) (y := true) rfl rfl (by decide) rfl) (ent_func cf_35 (argsC (t_string rfl) args0)) (operands_ct _ w2) ?_
     rintro _ w3 E9 rfl
     have F12 := F2.ext E9
     have hz9 := E9.size
     refine lx_value (want_if (j := 3) (d := 48) (x := true) (y := true) rfl rfl (by decide) rfl) (rn_gtr rfl rfl) ?_
     refine lx_value (want rfl) (pick_t rfl rfl) ?_
     refine lx_value (want rfl) (as_bool rfl) ?_
     refine lx_nil ?_
     refine wk_ret ?_
     refine retR1 Tryz.results142 (.tmp (t_bool rfl)) F12 ?_
     first | exact rt_1 hcs h1 | exact rt_2 hcs h1 h2 | exact yes_true (rt_4 hcs h1 h2 h4).2 | exact rt_20 hcs h1 h2 h4 h20 | exact rt_0 hcs h1 h2 h4 h20
    ·
     refine lx_value (want rfl) (as_bool rfl) ?_
     refine lx_nil ?_
     refine wk_cond_f rfl ?_
     refine wk_seq ?_
     refine wk_region ?_
     refine lx_value (want rfl) (rn_eql rfl rfl) ?_
     refine lx_dec (fun h20 => ?_) (fun h20 => ?_)
     ·
      refine lx_value (want rfl) (as_bool rfl) ?_
      refine lx_nil ?_
      refine wk_cond_t rfl ?_
      refine wk_seq ?_
      refine wk_region ?_
      refine lx_value (want rfl) (mv_pointer rfl) ?_
      refine lx_value (want rfl) (rn_loadBlk ag_73 sz_73 rfl (B21.ext E1) rfl rfl) ?_
      have hokN := okN_at hok h20
      refine lx_call (want rfl) (ent_func cf_160 (argsC (t_pointer rfl) (argsC (t_agg rfl) args0))) (named_ct F l b x so co hsm hokN w2 (hp0.fr F2 (fun _ _ h => h))) ?_
      rintro _ w3 E10 ⟨ssC, csC, siC, ciC, rfl, hGC⟩
      have F13 := F2.ext E10
      have hz10 := E10.size
      refine lx_value (want rfl) (mv_tuple rfl) ?_
      refine lx_value (want rfl) (rn_extract rfl rfl) ?_
      refine lx_value (want rfl) (rn_extract rfl rfl) ?_
      refine lx_new (want rfl) (rn_alloc ze_181) ?_
      intro b23 w4 hb23 Eb23 B23 hlb23
      have F14 := F13.ext Eb23
      have hzb23 := Eb23.size
      refine lx_set (want rfl) sz_181 rfl (t_agg rfl) rfl rfl rfl B23 (Nat.le_of_ble_eq_true rfl) ?_
      intro w5 Es2 Bs2
      have F15 := F14.set Es2 (by omega)
      have hzs2 := Es2.size
      refine lx_value (want rfl) (as_bool rfl) ?_
      refine lx_nil ?_
      refine wk_seq ?_
      refine wk_region ?_
      refine lx_value (want rfl) (mv_bool rfl) ?_
      refine lx_value (want rfl) (mv_bool rfl) ?_
      refine lx_value (want_if (j := 1) (d := 63) (x := true) (y := true) rfl rfl (by decide) rfl) (rn_fieldAddr fa_73_2 rfl) ?_
      refine lx_value (want_if (j := 1) (d := 63) (x := true) (y := true) rfl rfl (by decide) rfl) (rn_load1Blk ag_3 rfl ((((B21.ext E1).ext E10).ext Eb23).ne Es2 (by omega)) rfl) ?_
      refine lx_call (want_if (j := 1) (d := 63) (x := true) (y := true) rfl rfl (by decide) rfl) (ent_func cf_139 (argsC (t_int rfl) (argsC (t_int rfl) (argsC (t_int rfl) args0)))) (kwithin_ct _ _ _ w5) ?_
      rintro _ w6 E11 rfl
      have F16 := F15.ext E11
      have hz11 := E11.size
      refine lx_value (want rfl) (pick_t rfl rfl) ?_
      refine lx_value (want rfl) (as_bool rfl) ?_
      refine lx_nil ?_
      refine wk_ret ?_
      refine retR1 Tryz.results142 (.tmp (t_bool rfl)) F16 ?_
      first | exact rt_1 hcs h1 | exact rt_2 hcs h1 h2 | exact yes_true (rt_4 hcs h1 h2 h4).2 | exact rt_20 hcs h1 h2 h4 h20 | exact rt_0 hcs h1 h2 h4 h20
     ·
      refine lx_value (want rfl) (as_bool rfl) ?_
      refine lx_nil ?_
      refine wk_cond_f rfl ?_
      refine wk_skip ?_
      refine wk_seq ?_
      refine wk_region ?_
      refine lx_value (want rfl) (rn_fieldAddr fa_73_2 rfl) ?_
      refine lx_value (want rfl) (rn_load1Blk ag_3 rfl (B21.ext E1) rfl) ?_
      refine lx_value (want rfl) (rn_eql rfl rfl) ?_
      refine lx_value (want rfl) (as_bool rfl) ?_
      refine lx_nil ?_
      refine wk_ret ?_
      refine retR1 Tryz.results142 (.tmp (t_bool rfl)) F2 ?_
      first | exact rt_1 hcs h1 | exact rt_2 hcs h1 h2 | exact yes_true (rt_4 hcs h1 h2 h4).2 | exact rt_20 hcs h1 h2 h4 h20 | exact rt_0 hcs h1 h2 h4 h20

set_option maxRecDepth 100000 in
theorem tail_ct (F : Nat → Prop) (l : List Sg) (b : Nat) (g : Sg) (ss : Option Addr) (cs : Nat) (si : Option Addr) (ci : Nat) (hsm : smallG l = true) (hsi : smallI g.ins = true) (hsd : smallD g.st = true) (hS : Shaped l g) (w0 : World) (hp : PrgO F w0 b l) (hg : GRd F w0 g ss si ci) :
  CT Tryz.prog 144 [.agg #[.pointer (some ⟨b, 0, none⟩), .string g.nm, .int .i64 (g.ex : Nat), .slice ss g.st.length cs, .slice si g.ins.length ci]] w0 no (fun v w => ∃ s c, v = .slice s (tailL l g).length c ∧ OwnS w 209 2 s (tailL l g).length c ((tailL l g).flatMap plC) ∧ ∀ k, ob s k → w0.heap.size ≤ k) := by
 have hg0 := hg
 obtain ⟨hgs, hgi, hgr⟩ := hg0
 have hsl := smallI_len hsi
 have hnl := nodesN_le g.ins
 have hTk := hgi.take (nodesN g.ins)
 have hlp := hS.loop
 have hex := hS.ex
 have hlt2 : (g.ins.take (nodesN g.ins)).length = nodesN g.ins := by rw [List.length_take]; omega
 have hbd := tailN_bd hsm (l := l) (ns := g.ins.take (nodesN g.ins)) (all_take hS.ok _)
 have hbn : (tailN l (g.ins.take (nodesN g.ins))).length ≤ 1000 * nodesN g.ins := by have h := hbd (nodesN g.ins); rwa [List.take_of_length_le (l := g.ins.take (nodesN g.ins)) (by omega)] at h
 have F0 := Fr.refl no w0
 refine ct_body Tryz.func144 rfl Tryz.ntmps144 (Nat.le_of_ble_eq_true rfl) ?_
 refine wk_seq ?_
 refine wk_region ?_
 refine lx_new (want rfl) (rn_box (t_agg rfl)) ?_
 intro b1 w1 hb1 Eb1 B1 hlb1
 have F1 := F0.ext Eb1
 have hzb1 := Eb1.size
 refine lx_value (want rfl) (as_slice rfl) ?_
 refine lx_nil ?_
 refine wk_seq ?_
 refine wk_seq ?_
 refine wk_mix 8 (fun kS => match kS with | 4 => .val (.int .i64 (nodesN g.ins : Nat)) | _ => .none) (by kernel_rfl) (by kernel_rfl) (by intro kS G hk; (try dsimp only at hk); (split at hk) <;> first | (cases hk; done) | (injection hk with hk; subst hk; exact ⟨by intro j hkj I v w w' hR hG; first | exact hG, fun ⟨_, _, _, _, hs⟩ => by (try dsimp only at hs); split at hs <;> cases hs⟩)) (by intro kS s y G hk; (try dsimp only at hk); split at hk <;> cases hk) ?_
 simp only [List.take_succ_cons, List.take_zero, List.take_nil, List.drop_succ_cons, List.drop_zero, List.drop_nil]
 refine mx_calm rfl (want rfl) (fun u1 eu1 fu1 => rn_fieldAddr fa_193_1 rfl) ?_
 refine mx_calm rfl (want rfl) (fun u2 eu2 fu2 => rn_fieldAddr fa_181_3 rfl) ?_
 refine mx_calm rfl (want rfl) (fun u3 eu3 fu3 => rn_load1Blk ag_33 rfl (B1.ext ((ext_drawn _).trans' eu3)) rfl) ?_
 refine mx_calm rfl (want rfl) (fun u4 eu4 fu4 => rn_loadBlk ag_193 sz_193 rfl (B1.ext ((ext_drawn _).trans' eu4)) rfl rfl) ?_
 refine mx_val rfl (want rfl) (fun u5 eu5 fu5 => do_call (ent_func cf_141 (argsC (t_agg rfl) args0)) (nodes_ct _ g ss cs si ci F hsl u5 (hgi.fr (in_stab F) (F1.ext ((ext_drawn _).trans' eu5)) (fun _ _ h => h))) (fun _ _ E h => ⟨E, h⟩)) ?_
 refine mx_calm rfl (want rfl) (fun u6 eu6 fu6 => rn_sliceTo (nodesN g.ins) Tryz.underlying33 sz_73 rfl rfl rfl (by omega)) ?_
 refine mx_calm rfl (want rfl) (fun u7 eu7 fu7 => rn_len Tryz.underlying33 rfl) ?_
 refine mx_calm rfl (want rfl) (fun u8 eu8 fu8 => mv_int rfl) ?_
 refine mx_nil (fun w2 E1' H1 HS => ?_)
 have E1 := (ext_drawn _).trans' E1'
 have F2 := F1.ext E1
 have hz1 := E1.size
 refine lx_nil ?_
 refine wk_block ?_
 refine wk_loopA [2, 4, 5, 6, 15, 16, 17, 18, 19, 20, 21, 22, 23, 24, 25, 26, 27, 28, 29, 30, 31, 32, 33, 34, 35] no (fun nM ρ w => ∃ (i : Nat) (so1_1 : Option Addr) (co1_1 : Nat), nM = nodesN g.ins - i ∧ ρ 15 = .int .i64 i ∧ ρ 2 = .slice so1_1 ((tailN l ((g.ins.take (nodesN g.ins)).take i)).length) co1_1 ∧ OwnS w 209 2 so1_1 ((tailN l ((g.ins.take (nodesN g.ins)).take i)).length) co1_1 ((tailN l ((g.ins.take (nodesN g.ins)).take i)).flatMap plC) ∧ (∀ k, ob so1_1 k → w0.heap.size ≤ k) ∧ (∀ k, ob so1_1 k → (ob (none : Option Addr) k ∨ w2.heap.size ≤ k)) ∧ (i ≤ nodesN g.ins)) _ ⟨0, none, 0, rfl, rfl, rfl, ((OwnS.nil w1 209 2).ext E1), (fun _ h => ob_none h), (fun k h => .inl h), by omega⟩ ?_
 rintro n1 ρ1 w3 A1 EL1 ⟨i, so1_1, co1_1, rfl, hs1_15, ho1_1, ow1L_1, ge1L_1, bk1L_1, hi⟩
 have F3 := F2.ext EL1
 have hzL1 := EL1.size
 have nl1_1_1 : ∀ k, ob so1_1 k → k ≠ b1 := fun k hk => (bk1L_1 k hk).elim ((fun _ h => ob_none h) k) (fun h => by have := ((B1.ext E1)).lt; omega)
 refine wk_seq ?_
 refine wk_region ?_
 refine lx_value (want rfl) (rn_lss hs1_15 (A1.at 14 rfl rfl)) ?_
 refine lx_dec (fun hlt => ?_) (fun hlt => ?_)
 ·
  obtain ⟨x, hx⟩ : ∃ x, (g.ins.take (nodesN g.ins))[i]? = some x := ⟨_, List.getElem?_eq_getElem (by rw [hlt2]; omega)⟩
  obtain ⟨bx, ox, hsx, _, so, co, hcx, hco⟩ := hTk i x hx
  subst hsx
  have htl := tailN_step (l := l) hx
  refine lx_nil ?_
  refine wk_seq ?_
  refine wk_cond_t rfl ?_
  refine wk_skip ?_
  refine wk_seq ?_
  refine wk_block ?_
  refine wk_seq ?_
  refine wk_region ?_
  refine lx_value (want rfl) (rn_index _ Tryz.underlying33 sz_73 (A1.at 13 rfl rfl) hs1_15 rfl (by omega)) ?_
  refine lx_value (want rfl) (rn_loadN ag_73 sz_73 rfl rfl (hcx.fr F3 (fun h => h))) ?_
  refine lx_new (want rfl) (rn_alloc ze_73) ?_
  intro b2 w4 hb2 Eb2 B2 hlb2
  have F4 := F3.ext Eb2
  have hzb2 := Eb2.size
  have nb1 : ∀ k, ob so1_1 k → k ≠ b2 := fun k hk => by have := (ow1L_1).lt hk; omega
  refine lx_set (want rfl) sz_73 rfl (t_agg rfl) rfl rfl rfl B2 (Nat.le_of_ble_eq_true rfl) ?_
  intro w5 Es1 Bs1
  have F5 := F4.set Es1 (by omega)
  have hzs1 := Es1.size
  refine lx_nil ?_
  refine wk_seq ?_
  refine wk_region ?_
  refine lx_value (want rfl) (rn_fieldAddr fa_73_0 rfl) ?_
  refine lx_value (want rfl) (rn_load1Blk ag_5 rfl Bs1 rfl) ?_
  refine lx_value (want rfl) (rn_eql rfl rfl) ?_
  refine lx_dec (fun h20 => ?_) (fun h20 => ?_)
  ·
   rw [if_pos h20] at htl
   have hokN := okN_at (all_at (all_take hS.ok _) hx) h20
   have hcS := smallG_at hsm (callee_at (Bool.and_eq_true_iff.1 hokN).1).choose_spec.1
   have hcl := smallD_len hcS.1
   refine lx_nil ?_
   refine wk_cond_t rfl ?_
   refine wk_seq ?_
   refine wk_region ?_
   refine lx_value (want rfl) (rn_fieldAddr fa_193_0 (A1.at 1 rfl rfl)) ?_
   refine lx_value (want rfl) (rn_load1Blk ag_182 rfl ((((B1.ext E1).ext EL1).ext Eb2).ne Es1 (by omega)) rfl) ?_
   refine lx_value (want rfl) (rn_loadBlk ag_73 sz_73 rfl Bs1 rfl rfl) ?_
   refine lx_call (want rfl) (ent_func cf_160 (argsC (t_pointer rfl) (argsC (t_agg rfl) args0))) (named_ct F l b x so co hsm hokN w5 (hp.fr F5 (fun _ _ h => h))) ?_
   rintro _ w6 E2 ⟨ssC, csC, siC, ciC, rfl, hGC⟩
   have F6 := F5.ext E2
   have hz2 := E2.size
   refine lx_value (want rfl) (mv_tuple rfl) ?_
   refine lx_value (want rfl) (rn_extract rfl rfl) ?_
   refine lx_value (want rfl) (rn_extract rfl rfl) ?_
   refine lx_new (want rfl) (rn_alloc ze_181) ?_
   intro b3 w7 hb3 Eb3 B3 hlb3
   have F7 := F6.ext Eb3
   have hzb3 := Eb3.size
   have nb2 : ∀ k, ob so1_1 k → k ≠ b3 := fun k hk => by have := (ow1L_1).lt hk; omega
   refine lx_set (want rfl) sz_181 rfl (t_agg rfl) rfl rfl rfl B3 (Nat.le_of_ble_eq_true rfl) ?_
   intro w8 Es2 Bs2
   have F8 := F7.set Es2 (by omega)
   have hzs2 := Es2.size
   refine lx_value (want rfl) (as_bool rfl) ?_
   refine lx_nil ?_
   refine wk_region ?_
   refine lx_value (want rfl) (mv_slice ho1_1) ?_
   refine lx_value (want rfl) (rn_fieldAddr fa_181_2 rfl) ?_
   refine lx_value (want rfl) (rn_load1Blk ag_71 rfl Bs2 rfl) ?_
   refine lx_value (want rfl) (rn_len Tryz.underlying71 rfl) ?_
   refine lx_call (want rfl) (ent_func cf_161 (argsC (t_int rfl) args0)) (args_ct _ (by omega) w8) ?_
   rintro _ w9 E3 ⟨sR, cR, rfl, hOR, hgR⟩
   have F9 := F8.ext E3
   have hz3 := E3.size
   have ge2 : ∀ k, ob sR k → w0.heap.size ≤ k := fun k hk => (by have := hgR k hk; omega)
   have ne2_1 : ∀ k, ob sR k → k ≠ b1 := fun k hk => by have := hgR k hk; have := (B1).lt; omega
   have ne2_2 : ∀ k, ob sR k → k ≠ b2 := fun k hk => by have := hgR k hk; have := (Bs1).lt; omega
   have ne2_3 : ∀ k, ob sR k → k ≠ b3 := fun k hk => by have := hgR k hk; have := (Bs2).lt; omega
   have sp2_1 : ∀ k, ob sR k → ob so1_1 k → False := fun k hk h2 => by have := hgR k hk; have := (ow1L_1).lt h2; omega
   refine lx_append 16 (want rfl) Tryz.underlying207 ti_209 (by decide) rfl (by decide) rfl rfl ((((((ow1L_1.ext Eb2).ne Es1 (fun h => nb1 _ h rfl)).ext E2).ext Eb3).ne Es2 (fun h => nb2 _ h rfl)).ext E3) (own_src hOR rfl (by decide) (fun _ _ => rfl) (fun _ _ u hu => pl_one hu)) (by have := hbd (i + 1); rw [htl, List.length_append] at this; omega) ?_
   intro sq3 cq3 w10 AP3
   have EA3 := AP3.fr
   have ow3 := AP3.own
   have ge3 : ∀ k, ob sq3 k → w0.heap.size ≤ k := fun k hk => (AP3.blk k hk).elim (ge1L_1 k) (fun h => (Nat.le_trans F9.size h))
   have ne3_1 : ∀ k, ob sq3 k → k ≠ b1 := fun k hk => (AP3.blk k hk).elim (nl1_1_1 k) (fun h => by have := (((((((((B1.ext E1).ext EL1).ext Eb2).ne Es1 (by omega)).ext E2).ext Eb3).ne Es2 (by omega)).ext E3)).lt; omega)
   have ne3_2 : ∀ k, ob sq3 k → k ≠ b2 := fun k hk => (AP3.blk k hk).elim (nb1 k) (fun h => by have := (((((Bs1.ext E2).ext Eb3).ne Es2 (by omega)).ext E3)).lt; omega)
   have ne3_3 : ∀ k, ob sq3 k → k ≠ b3 := fun k hk => (AP3.blk k hk).elim (nb2 k) (fun h => by have := ((Bs2.ext E3)).lt; omega)
   have sp3_2 : ∀ k, ob sq3 k → ob sR k → False := fun k hk h2 => (AP3.blk k hk).elim (fun h => (fun k h1 h2 => sp2_1 k h2 h1) k h h2) (fun h => by have := (hOR).lt h2; omega)
   have bk3_1 : ∀ k, ob sq3 k → (ob (none : Option Addr) k ∨ w2.heap.size ≤ k) := fun k hk => (AP3.blk k hk).elim (bk1L_1 k) (fun h => .inr (by omega))
   have F10 := F9.new EA3 ge1L_1
   have hzA3 := EA3.size
   have BA3_1 := ((((((((B1.ext E1).ext EL1).ext Eb2).ne Es1 (by omega)).ext E2).ext Eb3).ne Es2 (by omega)).ext E3).fr EA3 (fun h => nl1_1_1 _ h rfl)
   have BA3_2 := ((((Bs1.ext E2).ext Eb3).ne Es2 (by omega)).ext E3).fr EA3 (fun h => nb1 _ h rfl)
   have BA3_3 := (Bs2.ext E3).fr EA3 (fun h => nb2 _ h rfl)
   have oA3_2 := hOR.fr EA3 (fun k h1 h2 => (fun k h1 h2 => sp2_1 k h2 h1) k h2 h1)
   have sr3_2 : ∀ k, ob sR k → ob sq3 k → False := fun k h1 h2 => sp3_2 k h2 h1
   refine lx_value (want rfl) (as_slice rfl) ?_
   refine lx_nil ?_
   refine wk_region ?_
   refine lx_value (want rfl) (rn_add hs1_15 rfl (by omega)) ?_
   refine lx_value (want rfl) (mv_int rfl) ?_
   refine lx_nil ?_
   exact ⟨rfl, (((((((((((((((((((((((((((A1.up rfl _).up rfl _).up rfl _).up rfl _).none _).up rfl _).up rfl _).up rfl _).up rfl _).up rfl _).up rfl _).up rfl _).up rfl _).up rfl _).up rfl _).up rfl _).none _).up rfl _).up rfl _).up rfl _).up rfl _).up rfl _).up rfl _).up rfl _).up rfl _).up rfl _).up rfl _), (Fr.trans (Fr.ext (Fr.trans (Fr.ext (Fr.ext (Fr.trans (Fr.ext EL1 Eb2) Es1 (fun i hi1 h => (absurd hi1 (by omega)))) E2) Eb3) Es2 (fun i hi1 h => (absurd hi1 (by omega)))) E3) EA3 (fun i hi1 h => ((bk1L_1 _ h).elim (fun h => (ob_none h)) (fun h => absurd hi1 (by omega))))), _, (by omega), i + 1, sq3, cq3, rfl, rfl, (tl_slot htl rfl), (by first | exact tl_own htl ow3 | exact tl_own (more := []) htl (by simpa using ow3)), ge3, bk3_1, by omega⟩
  ·
   rw [if_neg h20] at htl
   refine lx_nil ?_
   refine wk_cond_f rfl ?_
   refine wk_skip ?_
   refine wk_region ?_
   refine lx_value (want rfl) (rn_add hs1_15 rfl (by omega)) ?_
   refine lx_value (want rfl) (mv_int rfl) ?_
   refine lx_nil ?_
   exact ⟨rfl, ((((((((((A1.up rfl _).up rfl _).up rfl _).up rfl _).none _).up rfl _).up rfl _).up rfl _).up rfl _).up rfl _), (Fr.trans (Fr.ext EL1 Eb2) Es1 (fun i hi1 h => (absurd hi1 (by omega)))), _, (by omega), i + 1, so1_1, co1_1, rfl, rfl, (tl_slot htl ho1_1), (by first | exact tl_own htl ((ow1L_1.ext Eb2).ne Es1 (fun h => nb1 _ h rfl)) | exact tl_own (more := []) htl (by simpa using ((ow1L_1.ext Eb2).ne Es1 (fun h => nb1 _ h rfl)))), ge1L_1, bk1L_1, by omega⟩
 ·
  refine lx_nil ?_
  refine wk_seq ?_
  refine wk_cond_f rfl ?_
  refine wk_exit ?_
  refine wk_seq ?_
  refine wk_seq ?_
  refine wk_region ?_
  refine lx_value (want rfl) (rn_fieldAddr fa_193_1 (A1.at 1 rfl rfl)) ?_
  refine lx_value (want rfl) (rn_fieldAddr fa_181_1 rfl) ?_
  refine lx_value (want rfl) (rn_load1Blk ag_3 rfl ((B1.ext E1).ext EL1) rfl) ?_
  refine lx_value (want rfl) (mv_int rfl) ?_
  refine lx_nil ?_
  refine wk_block ?_
  refine wk_loopA [2, 7, 39, 40, 41, 42, 43, 44, 45, 46, 47] (fun kq => ob so1_1 kq) (fun nM ρ w => ∃ (j : Nat) (so2_1 : Option Addr) (co2_1 : Nat), nM = g.ex - j ∧ ρ 39 = .int .i64 j ∧ ρ 2 = .slice so2_1 ((tailN l (g.ins.take (nodesN g.ins))).length + j) co2_1 ∧ OwnS w 209 2 so2_1 ((tailN l (g.ins.take (nodesN g.ins))).length + j) co2_1 (((tailN l (g.ins.take (nodesN g.ins))) ++ (retL g.ex).take j).flatMap plC) ∧ (∀ k, ob so2_1 k → w0.heap.size ≤ k) ∧ (∀ k, ob so2_1 k → (ob so1_1 k ∨ w3.heap.size ≤ k)) ∧ (j ≤ g.ex)) _ ⟨0, so1_1, co1_1, rfl, rfl, (by rw [Nat.add_zero, ← tl_end hlt2 hi hlt]; exact ho1_1), (by rw [Nat.add_zero, List.take_zero, List.append_nil, ← tl_end hlt2 hi hlt]; exact ow1L_1), ge1L_1, (fun k h => .inl h), by omega⟩ ?_
  rintro n2 ρ2 w4 A2 EL2 ⟨j, so2_1, co2_1, rfl, hs2_39, ho2_1, ow2L_1, ge2L_1, bk2L_1, hj⟩
  have F11 := F3.new EL2 (fun i => (fun h => (ge1L_1 _) h))
  have hzL2 := EL2.size
  have nl2_1_1 : ∀ k, ob so2_1 k → k ≠ b1 := fun k hk => (bk2L_1 k hk).elim (nl1_1_1 k) (fun h => by have := (((B1.ext E1).ext EL1)).lt; omega)
  have bo2_1_1 : ∀ k, ob so2_1 k → (ob (none : Option Addr) k ∨ w2.heap.size ≤ k) := fun k hk => (bk2L_1 k hk).elim (bk1L_1 k) (fun h => .inr (by omega))
  refine wk_seq ?_
  refine wk_region ?_
  refine lx_value (want rfl) (rn_lss hs2_39 (A2.at 38 rfl rfl)) ?_
  refine lx_dec (fun hlt3 => ?_) (fun hlt3 => ?_)
  ·
   refine lx_nil ?_
   refine wk_seq ?_
   refine wk_cond_t rfl ?_
   refine wk_skip ?_
   refine wk_seq ?_
   refine wk_block ?_
   refine wk_seq ?_
   refine wk_region ?_
   refine lx_value (want rfl) (mv_int hs2_39) ?_
   refine lx_value (want rfl) (as_int rfl) ?_
   refine lx_nil ?_
   refine wk_region ?_
   refine lx_value (want rfl) (mv_slice ho2_1) ?_
   refine lx_value (want rfl) (mv_int rfl) ?_
   refine lx_value (want rfl) (rn_build2 (t_int rfl) (t_int rfl) (fun w => bd_209_0_1 _ _ w)) ?_
   refine lx_newS (want rfl) (rn_bslice (xs := [.tmp 44]) Tryz.underlying207 sz_209 ze_209 rfl (argsC (t_agg rfl) args0) (CL.cons rfl rfl CL.nil) rfl (Nat.le_of_ble_eq_true rfl)) ?_
   intro b4 w5 hb4 Eb4 B4 hlb4
   have F12 := F11.ext Eb4
   have hzb4 := Eb4.size
   have nb3 : ∀ k, ob so2_1 k → k ≠ b4 := fun k hk => by have := (ow2L_1).lt hk; omega
   refine lx_append 16 (want rfl) Tryz.underlying207 ti_209 (by decide) rfl (by decide) rfl rfl (ow2L_1.ext Eb4) ((Src.blk B4 rfl rfl)) (by omega) ?_
   intro sq4 cq4 w6 AP4
   have EA4 := AP4.fr
   have ow4 := AP4.own
   have ge4 : ∀ k, ob sq4 k → w0.heap.size ≤ k := fun k hk => (AP4.blk k hk).elim (ge2L_1 k) (fun h => (Nat.le_trans F12.size h))
   have ne4_1 : ∀ k, ob sq4 k → k ≠ b1 := fun k hk => (AP4.blk k hk).elim (nl2_1_1 k) (fun h => by have := (((((B1.ext E1).ext EL1).fr EL2 (fun h => (fun h => nl1_1_1 _ h rfl) h)).ext Eb4)).lt; omega)
   have ne4_4 : ∀ k, ob sq4 k → k ≠ b4 := fun k hk => (AP4.blk k hk).elim (nb3 k) (fun h => by have := (B4).lt; omega)
   have bk4_2 : ∀ k, ob sq4 k → (ob so1_1 k ∨ w3.heap.size ≤ k) := fun k hk => (AP4.blk k hk).elim (bk2L_1 k) (fun h => .inr (by omega))
   have bk4_1 : ∀ k, ob sq4 k → (ob (none : Option Addr) k ∨ w2.heap.size ≤ k) := fun k hk => (AP4.blk k hk).elim (bo2_1_1 k) (fun h => .inr (by omega))
   have F13 := F12.new EA4 ge2L_1
   have hzA4 := EA4.size
   have BA4_1 := ((((B1.ext E1).ext EL1).fr EL2 (fun h => (fun h => nl1_1_1 _ h rfl) h)).ext Eb4).fr EA4 (fun h => nl2_1_1 _ h rfl)
   have BA4_4 := B4.fr EA4 (fun h => nb3 _ h rfl)
   refine lx_value (want rfl) (as_slice rfl) ?_
   refine lx_nil ?_
   refine wk_region ?_
   refine lx_value (want rfl) (rn_add hs2_39 rfl (by omega)) ?_
   refine lx_value (want rfl) (mv_int rfl) ?_
   refine lx_nil ?_
   exact ⟨rfl, (((((((((((A2.up rfl _).up rfl _).up rfl _).up rfl _).up rfl _).up rfl _).up rfl _).up rfl _).up rfl _).up rfl _).up rfl _), (Fr.trans (Fr.ext EL2 Eb4) EA4 (fun i hi1 h => ((bk2L_1 _ h).elim (fun h => h) (fun h => absurd hi1 (by omega))))), _, (by omega), j + 1, sq4, cq4, rfl, rfl, rfl, (rl_own (by omega) ow4), ge4, bk4_2, by omega⟩
  ·
   refine lx_nil ?_
   refine wk_seq ?_
   refine wk_cond_f rfl ?_
   refine wk_exit ?_
   refine wk_seq ?_
   refine wk_seq ?_
   refine wk_region ?_
   refine lx_value (want rfl) (rn_fieldAddr fa_193_1 (A2.at 1 rfl (A1.at 1 rfl rfl))) ?_
   refine lx_value (want rfl) (rn_loadBlk ag_181 sz_181 rfl (((B1.ext E1).ext EL1).fr EL2 (fun h => (fun h => nl1_1_1 _ h rfl) h)) rfl rfl) ?_
   refine lx_call (want rfl) (ent_func cf_127 (argsC (t_agg rfl) args0)) (kloop_ct g ss cs si ci F hsl w4 (hgi.fr (in_stab F) F11 (fun _ _ h => h))) ?_
   rintro _ w5 E4 rfl
   have F14 := F11.ext E4
   have hz4 := E4.size
   refine lx_b_f (hlp) ?_
   refine lx_nil ?_
   refine wk_cond_f rfl ?_
   refine wk_skip ?_
   refine wk_seq ?_
   refine wk_region ?_
   refine lx_value (want rfl) (mv_slice ho2_1) ?_
   refine lx_value (want rfl) (as_slice rfl) ?_
   refine lx_nil ?_
   refine wk_ret ?_
   refine retR1 Tryz.results144 (.tmp (t_slice rfl)) F14 ?_
   obtain rfl : j = g.ex := by omega
   exact ⟨_, _, (by rw [tailL_len]), by rw [tailL_len]; exact tl_fin (ow2L_1.ext E4), ge2L_1⟩

set_option maxHeartbeats 2000000 in
set_option maxRecDepth 100000 in
theorem execa_ct (SS : Sto) (sa : Option Addr) (ca : Nat) (sb : Option Addr) (cb : Nat) (F : Nat → Prop) (hsm : smallS SS = true) (at_ : Int) (hpl : placeB SS at_ = true) (ctx : Int) (xi : Int) (xs : List (List Ds)) (hca : codeAt SS at_ = ⟨4, ltN, xi, xs⟩) (a b : Vl) (ha : intB a) (hb : intB b) (ds : List Ds) (hds : xs[0]? = some ds) (hdl : ds.length ≤ 1000) (s : Option Addr) (c : Nat) (G : Nat → Prop) (w0 : World) (hS : StR F w0 SS sa ca sb cb) (hl : VlS G w0 s [a, b]) :
  CT Tryz.prog 31 [.agg #[.slice sa SS.slots.length ca, .slice sb SS.code.length cb], .agg #[.int .i64 ctx, .int .i64 at_, .slice s 2 c]] w0 no (fun u w => ∃ s c, u = .agg #[.slice s (tkL ctx (ltV a b) ds).length c, .slice none 0 0] ∧ OwnS w 51 5 s (tkL ctx (ltV a b) ds).length c ((tkL ctx (ltV a b) ds).flatMap tkC) ∧ ∀ k, ob s k → w0.heap.size ≤ k) := by
 obtain ⟨hat, hax⟩ := placeB_at hpl
 have hcl := smallI_len (smallS_code hsm)
 have hS0 := hS
 rw [hca] at hax
 obtain ⟨bx, ox, hsx, _, so, co, hcx, hco⟩ := hS.code _ _ hax
 subst hsx
 have F0 := Fr.refl no w0
 refine ct_body Tryz.func31 rfl Tryz.ntmps31 (Nat.le_of_ble_eq_true rfl) ?_
 refine wk_seq ?_
 refine wk_region ?_
 refine lx_new (want rfl) (rn_box (t_agg rfl)) ?_
 intro b1 w1 hb1 Eb1 B1 hlb1
 have F1 := F0.ext Eb1
 have hzb1 := Eb1.size
 refine lx_new (want rfl) (rn_box (t_agg rfl)) ?_
 intro b2 w2 hb2 Eb2 B2 hlb2
 have F2 := F1.ext Eb2
 have hzb2 := Eb2.size
 refine lx_new (want rfl) (rn_alloc ze_59) ?_
 intro b3 w3 hb3 Eb3 B3 hlb3
 have F3 := F2.ext Eb3
 have hzb3 := Eb3.size
 refine lx_nil ?_
 refine wk_seq ?_
 refine wk_mix 14 (fun kS => match kS with | 10 => .val (.agg #[.int .i64 ctx, .int .i64 at_]) | 11 => .any (fun I v w => v = .pointer (some ⟨I.1, 0, none⟩) ∧ w3.heap.size ≤ I.1 ∧ I.1 < I.2 ∧ Blk w I.1 [.int .u8 0, .string ⟨#[]⟩, .int .i64 0, .slice none 0 0] 73) | 12 => .any (fun I v w => ∃ b, v = .pointer (some ⟨b, 0, none⟩) ∧ w3.heap.size ≤ b ∧ (I.1 ≤ b ∧ b < I.2) ∧ Blk w b [.int .i64 0, .int .i64 0] 23) | 13 => .sto 5 21 (fun J u w => J.1 < J.2 ∧ Blk w J.1 u.cells.toList 73) | _ => .none) (by kernel_rfl) (by kernel_rfl) (by intro kS G hk; (try dsimp only at hk); (split at hk) <;> first | (cases hk; done) | (injection hk with hk; subst hk; exact ⟨by intro j hkj I v w w' hR hG; first | exact hG | (obtain ⟨b, h1, h2, hI, h3⟩ := hG; exact ⟨b, h1, h2, hI, h3.ext hR⟩) | (obtain ⟨h1, h2, hI, h3⟩ := hG; exact ⟨h1, h2, hI, h3.ext hR⟩), fun _ I v w w' hR hG => by first | exact hG | (obtain ⟨b, h1, h2, hI, h3⟩ := hG; exact ⟨b, h1, h2, hI, h3.fr hR (fun h => h.2 hI)⟩) | (obtain ⟨h1, h2, hI, h3⟩ := hG; exact ⟨h1, h2, hI, h3.fr hR (fun h => h.2 ⟨Nat.le_refl _, hI⟩)⟩)⟩)) (by intro kS s y G hk; (try dsimp only at hk); (split at hk) <;> first | (cases hk; done) | (injection hk with hk1 hk2 hk3; subst hk1; subst hk2; subst hk3; exact ⟨by kernel_rfl, by intro j hkj I v w w' hR hG; exact ⟨hG.1, hG.2.ext hR⟩, fun I v w w' hR hG => ⟨hG.1, hG.2.fr hR (fun h => h.2 ⟨Nat.le_refl _, hG.1⟩)⟩⟩)) ?_
 simp only [List.take_succ_cons, List.take_zero, List.take_nil, List.drop_succ_cons, List.drop_zero, List.drop_nil]
 refine mx_calm rfl (want rfl) (fun u1 eu1 fu1 => rn_fieldAddr fa_80_0 rfl) ?_
 refine mx_calm rfl (want rfl) (fun u2 eu2 fu2 => rn_fieldAddr fa_35_1 rfl) ?_
 refine mx_calm rfl (want rfl) (fun u3 eu3 fu3 => rn_load1Blk ag_33 rfl (((B1.ext Eb2).ext Eb3).ext ((ext_drawn _).trans' eu3)) rfl) ?_
 refine mx_calm rfl (want rfl) (fun u4 eu4 fu4 => rn_fieldAddr fa_55_1 rfl) ?_
 refine mx_calm rfl (want rfl) (fun u5 eu5 fu5 => rn_load1Blk ag_3 rfl ((B2.ext Eb3).ext ((ext_drawn _).trans' eu5)) rfl) ?_
 refine mx_calm rfl (want rfl) (fun u6 eu6 fu6 => rn_index at_.toNat Tryz.underlying33 sz_73 rfl rfl (by omega) (by omega)) ?_
 refine mx_calm rfl (want rfl) (fun u7 eu7 fu7 => rn_loadN ag_73 sz_73 rfl rfl (hcx.fr (F3.ext ((ext_drawn _).trans' eu7)) (fun h => h))) ?_
 refine mx_calm rfl (want rfl) (fun u8 eu8 fu8 => rn_fieldAddr fa_55_2 rfl) ?_
 refine mx_calm rfl (want rfl) (fun u9 eu9 fu9 => rn_load1Blk ag_53 rfl ((B2.ext Eb3).ext ((ext_drawn _).trans' eu9)) rfl) ?_
 refine mx_calm rfl (want rfl) (fun u10 eu10 fu10 => rn_loadBlk ag_55 sz_55 rfl ((B2.ext Eb3).ext ((ext_drawn _).trans' eu10)) rfl rfl) ?_
 refine mx_val rfl (want rfl) (fun u11 eu11 fu11 => do_call (ent_func cf_48 (argsC (t_agg rfl) args0)) (point_ct ⟨ctx, at_, [a, b]⟩ _ c u11) (fun _ _ E h => ⟨E, h⟩)) ?_
 refine mx_any rfl rfl (want rfl) (fun u12 eu12 fu12 => (do_new3 (rn_alloc ze_73) (show _ ≤ _ from (((ext_drawn _).trans' eu12)).size)).mono (fun v w' h => ⟨h.1, h.2⟩)) (fun I5 v5 => ?_)
 refine mx_any rfl rfl (want rfl) (fun u13 eu13 fu13 => (do_new2 (rn_alloc ze_23) (show _ ≤ _ from (((ext_drawn _).trans' eu13)).size)).mono (fun v w' h => ⟨h.1, h.2⟩)) (fun I7 v7 => ?_)
 refine mx_sto rfl rfl rfl rfl (want rfl) (fun u14 eu14 fu14 _ => by obtain ⟨rfl, hl5, hi5, hB5⟩ := fu14 5 _ rfl (show (5 : Nat) ∈ _ from by decide); exact (do_sto sz_73 rfl rfl rfl rfl rfl hB5 rfl ⟨Nat.le_refl _, hi5⟩).mono (fun v w' h => ⟨h.1, h.2.1, hi5, h.2.2⟩)) ?_
 refine mx_nil (fun w4 E1' H1 HS => ?_)
 have E1 := (ext_drawn _).trans' E1'
 have F4 := F3.ext E1
 have hz1 := E1.size
 have hI7 := (HS.1 7 _ rfl).2
 have hI5 := (HS.1 5 _ rfl).2
 have hX7_5 := HS.2 7 _ 5 _ rfl rfl (show (7 : Nat) ≠ 5 from by decide)
 simp only at hI7
 simp only at hI5
 simp only at hX7_5
 have g7 := H1 7 _ rfl
 (try dsimp only at g7); obtain ⟨b87, hv7, hbb87, hib87, Bb87⟩ := g7; subst hv7; have hlbb87 := Bb87.lt
 have g5 := H1 5 _ rfl
 obtain ⟨⟨_, hv5, hb5, _, _⟩, hi5, hB5⟩ := g5; subst hv5; have hlb5 := hB5.lt
 refine lx_value (want rfl) (as_slice rfl) ?_
 refine lx_set (want rfl) sz_23 rfl (t_agg rfl) rfl rfl rfl Bb87 (Nat.le_of_ble_eq_true rfl) ?_
 intro w5 Es1 Bs1
 have F5 := F4.set Es1 (by omega)
 have hzs1 := Es1.size
 refine lx_nil ?_
 refine wk_seq ?_
 refine wk_seq ?_
 refine wk_mix 8 (fun kS => match kS with | 0 => .any (fun I v w => ∃ b, v = .map (some b) ∧ MapL w b kU askL) | _ => .none) (by kernel_rfl) (by kernel_rfl) (by intro kS G hk; (try dsimp only at hk); (split at hk) <;> first | (cases hk; done) | (injection hk with hk; subst hk; exact ⟨by intro j hkj I v w w' hR hG; first | exact hG | (obtain ⟨b, h1, h2⟩ := hG; exact ⟨b, h1, h2.ext hR⟩), fun ⟨_, _, _, _, hs⟩ => by (try dsimp only at hs); split at hs <;> cases hs⟩)) (by intro kS s y G hk; (try dsimp only at hk); split at hk <;> cases hk) ?_
 simp only [List.take_succ_cons, List.take_zero, List.take_nil, List.drop_succ_cons, List.drop_zero, List.drop_nil]
 refine mx_any rfl rfl (want rfl) (fun u15 eu15 fu15 => do_call (ent_func cf_49 args0) (asks_ct u15) (fun v w' E h => ⟨E, (by obtain ⟨b, h1, h2, _⟩ := h; exact ⟨b, h1, h2⟩)⟩)) (fun I27 v27 => ?_)
 refine mx_calm rfl (want rfl) (fun u16 eu16 fu16 => rn_fieldAddr fa_73_0 rfl) ?_
 refine mx_calm rfl (want rfl) (fun u17 eu17 fu17 => rn_load1Blk ag_5 rfl ((hB5.ne Es1 (by omega)).ext ((ext_drawn _).trans' eu17)) rfl) ?_
 refine mx_calm (v := .tuple #[.int .u8 0, .bool false]) rfl (want rfl) (fun u18 eu18 fu18 => by obtain ⟨bK, rfl, hMK⟩ := fu18 27 _ rfl (show (27 : Nat) ∈ _ from by decide); exact (by rw [← askL_4]; exact rn_lookLOk (k := (4 : Int)) mv_114.g rfl rfl hMK)) ?_
 refine mx_calm rfl (want rfl) (fun u19 eu19 fu19 => mv_tuple rfl) ?_
 refine mx_calm rfl (want rfl) (fun u20 eu20 fu20 => rn_extract rfl rfl) ?_
 refine mx_calm rfl (want rfl) (fun u21 eu21 fu21 => rn_extract rfl rfl) ?_
 refine mx_calm rfl (want rfl) (fun u22 eu22 fu22 => as_int rfl) ?_
 refine mx_nil (fun w6 E2' H2 HS => ?_)
 have E2 := (ext_drawn _).trans' E2'
 have F6 := F5.ext E2
 have hz2 := E2.size
 have hI27 := (HS.1 27 _ rfl).2
 simp only at hI27
 have g27 := H2 27 _ rfl
 refine lx_value (want rfl) (as_bool rfl) ?_
 refine lx_nil ?_
 refine wk_seq ?_
 refine wk_mix 7 (fun _ => .none) (by kernel_rfl) (by kernel_rfl) (fun kS G hk => by cases hk) (fun kS s y G hk => by cases hk) ?_
 simp only [List.take_succ_cons, List.take_zero, List.take_nil, List.drop_succ_cons, List.drop_zero, List.drop_nil]
 refine mx_calm rfl (want rfl) (fun u23 eu23 fu23 => mv_bool rfl) ?_
 refine mx_calm rfl (want rfl) (fun u24 eu24 fu24 => mv_bool rfl) ?_
 refine mx_skip (want_if (j := 1) (d := 34) (x := true) (y := false) rfl rfl (by decide) rfl) ?_
 refine mx_skip (want_if (j := 1) (d := 34) (x := true) (y := false) rfl rfl (by decide) rfl) ?_
 refine mx_skip (want_if (j := 1) (d := 34) (x := true) (y := false) rfl rfl (by decide) rfl) ?_
 refine mx_skip (want_if (j := 1) (d := 34) (x := true) (y := false) rfl rfl (by decide) rfl) ?_
 refine mx_skip (want_if (j := 1) (d := 34) (x := true) (y := false) rfl rfl (by decide) rfl) ?_
 refine mx_nil (fun w7 E3' H3 HS => ?_)
 have E3 := (ext_drawn _).trans' E3'
 have F7 := F6.ext E3
 have hz3 := E3.size
 refine lx_skip (want_if (j := 1) (d := 34) (x := true) (y := false) rfl rfl (by decide) rfl) ?_
 refine lx_skip (want_if (j := 1) (d := 34) (x := true) (y := false) rfl rfl (by decide) rfl) ?_
 refine lx_value (want rfl) (pick_f rfl rfl) ?_
 refine lx_nil ?_
 refine wk_cond_f rfl ?_
 refine wk_skip ?_
 refine wk_seq ?_
 refine wk_region ?_
 refine lx_value (want rfl) (as_slice rfl) ?_
 refine lx_nil ?_
 refine wk_seq ?_
 refine wk_seq ?_
 refine wk_region ?_
 refine lx_value (want rfl) (rn_fieldAddr fa_73_0 rfl) ?_
 refine lx_value (want rfl) (rn_load1Blk ag_5 rfl (((hB5.ne Es1 (by omega)).ext E2).ext E3) rfl) ?_
 refine lx_nil ?_
 refine wk_block ?_
 refine wk_seq ?_
 refine wk_region ?_
 refine lx_value (want rfl) (rn_eql rfl rfl) ?_
 refine lx_dec_f ((by simp)) ?_
 refine lx_value (want rfl) (as_bool rfl) ?_
 refine lx_nil ?_
 refine wk_cond_f rfl ?_
 refine wk_seq ?_
 refine wk_region ?_
 refine lx_value (want rfl) (rn_eql rfl rfl) ?_
 refine lx_dec_f ((by simp)) ?_
 refine lx_value (want rfl) (as_bool rfl) ?_
 refine lx_nil ?_
 refine wk_cond_f rfl ?_
 refine wk_seq ?_
 refine wk_region ?_
 refine lx_value (want rfl) (rn_eql rfl rfl) ?_
 refine lx_dec_f ((by simp)) ?_
 refine lx_value (want rfl) (as_bool rfl) ?_
 refine lx_nil ?_
 refine wk_cond_f rfl ?_
 refine wk_seq ?_
 refine wk_region ?_
 refine lx_value (want rfl) (rn_eql rfl rfl) ?_
 refine lx_dec_t (rfl) ?_
 refine lx_value (want rfl) (as_bool rfl) ?_
 refine lx_nil ?_
 refine wk_cond_t rfl ?_
 refine wk_seq ?_
 refine wk_region ?_
 refine lx_value (want rfl) (rn_fieldAddr fa_73_1 rfl) ?_
 refine lx_value (want rfl) (rn_load1Blk ag_9 rfl (((hB5.ne Es1 (by omega)).ext E2).ext E3) rfl) ?_
 refine lx_value (want rfl) (mv_slice rfl) ?_
 refine lx_call (want rfl) (ent_func cf_54 (argsC (t_string rfl) (argsC (t_slice rfl) args0))) (prim_ct a b ha hb s c G w7 (hl.fr (vl_stab _) F7 (fun _ _ h => h))) ?_
 rintro _ w8 E4 rfl
 have F8 := F7.ext E4
 have hz4 := E4.size
 refine lx_value (want rfl) (mv_tuple rfl) ?_
 refine lx_value (want rfl) (rn_extract rfl rfl) ?_
 refine lx_value (want rfl) (rn_extract rfl rfl) ?_
 refine lx_new (want rfl) (rn_alloc ze_48) ?_
 intro b4 w9 hb4 Eb4 B4 hlb4
 have F9 := F8.ext Eb4
 have hzb4 := Eb4.size
 refine lx_set (want rfl) sz_48 rfl (t_agg rfl) rfl rfl rfl B4 (Nat.le_of_ble_eq_true rfl) ?_
 intro w10 Es2 Bs2
 have F10 := F9.set Es2 (by omega)
 have hzs2 := Es2.size
 refine lx_value (want rfl) (as_int rfl) ?_
 refine lx_nil ?_
 refine wk_region ?_
 refine lx_value (want rfl) (rn_loadBlk ag_48 sz_48 rfl Bs2 rfl rfl) ?_
 refine lx_newS (want rfl) (rn_bslice (xs := [.tmp 94]) Tryz.underlying53 sz_48 ze_48 rfl (argsC (t_agg rfl) args0) (CL.cons rfl rfl CL.nil) rfl (Nat.le_of_ble_eq_true rfl)) ?_
 intro b5 w11 hb5 Eb5 B5 hlb5
 have F11 := F10.ext Eb5
 have hzb5 := Eb5.size
 refine lx_value (want rfl) (as_slice rfl) ?_
 refine lx_nil ?_
 refine wk_seq ?_
 refine wk_region ?_
 refine lx_value (want rfl) (rn_loadBlk ag_80 sz_80 rfl ((((((((((B1.ext Eb2).ext Eb3).ext E1).ne Es1 (by omega)).ext E2).ext E3).ext E4).ext Eb4).ne Es2 (by omega)).ext Eb5) rfl rfl) ?_
 refine lx_value (want rfl) (rn_loadBlk ag_23 sz_23 rfl ((((((Bs1.ext E2).ext E3).ext E4).ext Eb4).ne Es2 (by omega)).ext Eb5) rfl rfl) ?_
 refine lx_value (want rfl) (mv_slice rfl) ?_
 refine lx_call (want rfl) (ent_func cf_59 (argsC (t_agg rfl) (argsC (t_agg rfl) (argsC (t_slice rfl) args0)))) (give_ct SS sa ca _ cb F hsm at_ hpl ctx (ltV a b) (decide_eq_false (fun h => absurd (show (2 : Int) = 0 from h.1) (by decide))) _ 1 (fun _ => True) ds (by rw [hca]; exact hds) hdl w11 (hS0.fr F11 (fun _ _ h => h)) (vl_blk1 (u := ltV a b) B5)) ?_
 rintro _ w12 E5 ⟨sT, cT, rfl, hTT, hgT⟩
 have F12 := F11.ext E5
 have hz5 := E5.size
 refine lx_value (want rfl) (rn_fieldAddr fa_59_0 rfl) ?_
 refine lx_set (want rfl) sz_56 rfl (t_slice rfl) rfl rfl rfl (((((((((B3.ext E1).ne Es1 (by omega)).ext E2).ext E3).ext E4).ext Eb4).ne Es2 (by omega)).ext Eb5).ext E5) (Nat.le_of_ble_eq_true rfl) ?_
 intro w13 Es3 Bs3
 have F13 := F12.set Es3 (by omega)
 have hzs3 := Es3.size
 refine lx_nil ?_
 refine wk_seq ?_
 refine wk_region ?_
 refine lx_value (want rfl) (rn_loadBlk ag_59 sz_59 rfl Bs3 rfl rfl) ?_
 refine lx_set (want rfl) sz_59 rfl (t_agg rfl) rfl rfl rfl Bs3 (Nat.le_of_ble_eq_true rfl) ?_
 intro w14 Es4 Bs4
 have F14 := F13.set Es4 (by omega)
 have hzs4 := Es4.size
 refine lx_nil ?_
 refine wk_ret ?_
 refine retR1 Tryz.results31 (.cell rfl (run_loadVar_blk ag_59 sz_59 Bs4 rfl rfl)) F14 ?_
 exact ⟨sT, cT, rfl, hTT.fr (Fr.trans (Fr.trans (Fr.refl (fun k => k = b3) w12) Es3 (fun k _ h => h)) Es4 (fun k _ h => h)) (fun k hk h => by have := hgT k hk; (try dsimp only at h); omega), fun k hk => by have := hgT k hk; omega⟩

end Go.Proofs.YtgnnegfnpgnbbaaGreatDoor

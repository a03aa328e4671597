/- What functions compute: awake. -/
import Derived.Test.YtgnnegfnpgnbbaaGreatDoorHomesFacts
import Derived.Test.YtgnnegfnpgnbbaaGreatDoorHomesPre
import Derived.Test.YtgnnegfnpgnbbaaGreatDoorHomesWalk10
import Derived.Test.YtgnnegfnpgnbbaaGreatDoorHomesWalk12
import Derived.Test.YtgnnegfnpgnbbaaGreatDoorHomesWalk2
import Derived.Test.YtgnnegfnpgnbbaaGreatDoorHomesWalk21
import Derived.Test.YtgnnegfnpgnbbaaGreatDoorHomesWalk22
import Derived.Test.YtgnnegfnpgnbbaaGreatDoorHomesWalk3
import Derived.Test.YtgnnegfnpgnbbaaGreatDoorHomesWalk4
import Derived.Test.YtgnnegfnpgnbbaaGreatDoorHomesWalk5
set_option maxRecDepth 100000
set_option linter.unusedVariables false
set_option linter.unusedSimpArgs false
namespace Go.Proofs.YtgnnegfnpgnbbaaGreatDoor
open Go Go.RowKit Go.Mix Go.Eng
set_option maxHeartbeats 8000000 in
set_option maxRecDepth 100000 in
theorem awake_ct (w0 : World) :
  CT Tryz.prog 6 [] w0 no (fun v _ => v = .bool true) := by
 have F0 := Fr.refl no w0
 refine ct_body Tryz.func6 rfl Tryz.ntmps6 (Nat.le_of_ble_eq_true rfl) ?_
 refine wk_seq ?_
 refine wk_region ?_
 refine lx_value (want rfl) (as_bool rfl) ?_
 refine lx_nil ?_
 refine wk_seq ?_
 refine wk_region ?_
 refine lx_call (want rfl) (ent_func cf_10 args0) (example_ct w0) ?_
 rintro _ w1 E1 ⟨sa, ca, sb, cb, rfl, hST⟩
 have F1 := F0.ext E1
 have hz1 := E1.size
 have hSR := str_lt hST
 refine lx_new (want rfl) (rn_alloc ze_35) ?_
 intro b1 w2 hb1 Eb1 B1 hlb1
 have F2 := F1.ext Eb1
 have hzb1 := Eb1.size
 refine lx_set (want rfl) sz_35 rfl (t_agg rfl) rfl rfl rfl B1 (Nat.le_of_ble_eq_true rfl) ?_
 intro w3 Es1 Bs1
 have F3 := F2.set Es1 (by omega)
 have hzs1 := Es1.size
 refine lx_nil ?_
 refine wk_seq ?_
 refine wk_region ?_
 refine lx_value (want rfl) (rn_loadBlk ag_35 sz_35 rfl Bs1 rfl rfl) ?_
 refine lx_call (want rfl) (ent_func cf_11 (argsC (t_agg rfl) (argsC (t_int rfl) args0))) (ports_ct exS sa ca sb cb (fun k => w0.heap.size ≤ k ∧ k < w1.heap.size) exOk 2 expl2 w3 (hSR.fr (Fr.trans (Fr.ext (Fr.refl (fun k => k = b1) w1) Eb1) Es1 (fun k _ h => h)) (fun k hk h => by have h9 := hk.2; (try dsimp only at h); first | exact h.elim | omega))) ?_
 rintro _ w4 E2 rfl
 have F4 := F3.ext E2
 have hz2 := E2.size
 refine lx_value (want rfl) (mv_tuple rfl) ?_
 refine lx_value (want rfl) (rn_extract rfl rfl) ?_
 refine lx_value (want rfl) (rn_extract rfl rfl) ?_
 refine lx_value (want rfl) (rn_extract rfl rfl) ?_
 refine lx_value (want rfl) (as_int rfl) ?_
 refine lx_value (want rfl) (as_int rfl) ?_
 refine lx_value (want rfl) (as_int rfl) ?_
 refine lx_nil ?_
 refine wk_seq ?_
 refine wk_region ?_
 refine lx_call (want rfl) (ent_func cf_12 (argsC (t_int rfl) args0)) (new_ct 1 (by decide) w4) ?_
 rintro _ w5 E3 rfl
 have F5 := F4.ext E3
 have hz3 := E3.size
 refine lx_value (want rfl) (mv_tuple rfl) ?_
 refine lx_value (want rfl) (rn_extract rfl rfl) ?_
 refine lx_value (want rfl) (rn_extract rfl rfl) ?_
 refine lx_new (want rfl) (rn_alloc ze_42) ?_
 intro b2 w6 hb2 Eb2 B2 hlb2
 have F6 := F5.ext Eb2
 have hzb2 := Eb2.size
 refine lx_set (want rfl) sz_42 rfl (t_agg rfl) rfl rfl rfl B2 (Nat.le_of_ble_eq_true rfl) ?_
 intro w7 Es2 Bs2
 have F7 := F6.set Es2 (by omega)
 have hzs2 := Es2.size
 refine lx_value (want rfl) (as_int rfl) ?_
 refine lx_nil ?_
 refine wk_seq ?_
 have hSb4 := hSR.fr (Fr.trans (Fr.ext (Fr.ext (Fr.ext (Fr.trans (Fr.ext (Fr.refl (fun k => k = b1 ∨ k = b2) w1) Eb1) Es1 (fun k _ h => (.inl h))) E2) E3) Eb2) Es2 (fun k _ h => (.inr h))) (fun k hk h => by have h9 := hk.2; (try dsimp only at h); first | exact h.elim | omega)
 refine wk_mixW 11 (fun j => match j with | 9 => (fun kq => kq = b2) | _ => no) (fun j (w w' : World) => match j with | _ => True) (fun i => match i with | 0 => no | 1 => no | 2 => no | 3 => no | 4 => no | 5 => no | 6 => no | 7 => (fun kq => kq = b2) | 8 => (fun kq => kq = b2) | 9 => no | 10 => (fun kq => kq = b2) | _ => (fun kq => kq = b2)) (fun kq => kq = b2) (fun kS => match kS with | 2 => .any 28 (fun I v w => v = .agg #[.int .u8 1, .int .i64 3]) | 4 => .any 30 (fun I v w => ∃ s c s3 c3, v = .tuple #[.agg #[.int .i64 ((1 : Nat) : Int), .slice s 1 c, .slice s3 0 c3, .slice none 0 0], .slice none 0 0, .int .i64 0] ∧ EnS (fun k => w7.heap.size ≤ k) w s [⟨1, 1, [(1, 3), (0, 0)]⟩]) | 5 => .any 25 (fun I v w => ∃ s c s3 c3, v = .tuple #[.agg #[.int .i64 ((1 : Nat) : Int), .slice s 1 c, .slice s3 0 c3, .slice none 0 0], .slice none 0 0, .int .i64 0] ∧ EnS (fun k => w7.heap.size ≤ k) w s [⟨1, 1, [(1, 3), (0, 0)]⟩]) | 6 => .any 31 (fun I v w => ∃ s c s3 c3, v = .agg #[.int .i64 ((1 : Nat) : Int), .slice s 1 c, .slice s3 0 c3, .slice none 0 0] ∧ EnS (fun k => w7.heap.size ≤ k) w s [⟨1, 1, [(1, 3), (0, 0)]⟩]) | 9 => .any 1000000 (fun I v w => ∃ s c s3 c3, Blk w b2 [.int .i64 ((1 : Nat) : Int), .slice s 1 c, .slice s3 0 c3, .slice none 0 0] 42 ∧ EnS (fun k => w7.heap.size ≤ k) w s [⟨1, 1, [(1, 3), (0, 0)]⟩]) | _ => .none) (by kernel_rfl) (by kernel_rfl) ⟨by intro i e G o hk ho; (try dsimp only at hk); split at hk <;> first | (cases hk; done) | (injection hk with hk1 hk2; subst hk1; first | exact .inl ((congrArg (fun q => Option.bind q Oper.dst) ho).symm.trans (by rfl)) | (refine .inr fun j oj hoj => ?_; obtain ⟨q1, q2⟩ := ghost_ok (by kernel_rfl) j oj hoj; exact ⟨q1, q2, fun G' hj h => by (try dsimp only at h); split at h <;> first | (cases h; done) | (exact absurd rfl hj) | (injection h with h1 _; first | (cases h1; done) | (exact absurd h1 (by decide)))⟩))⟩ (by intro i j hij hw k hk; (try dsimp only at hk); split at hk <;> (try exact hk.elim) <;> (try dsimp only) <;> split <;> first | exact hk | exact .inl hk | exact .inr hk | exact absurd rfl hij | exact absurd (hw.symm.trans (by kernel_rfl)) Bool.false_ne_true) (by intro j k hk; (try dsimp only at hk); split at hk <;> first | exact hk.elim | exact hk | exact .inl hk | exact .inr hk) (by intro kS e G hk j hkj hw I v w w' hR hX hG; (try dsimp only at hk); split at hk <;> first | (cases hk; done) | (injection hk with hk1 hk2; subst hk1; subst hk2; (try dsimp only at hR hX hG); split at hR <;> first | exact absurd rfl hkj | exact hG | (obtain ⟨s, c, s3, c3, h1, h2⟩ := hG; exact ⟨s, c, s3, c3, h1, h2.fr (en_stab _) hR (by intro k hk hs; first | exact hs.elim | (have hs : k = _ := hs; have hk : _ ≤ k := hk; omega))⟩) | (obtain ⟨s, c, s3, c3, h1, h2⟩ := hG; exact ⟨s, c, s3, c3, h1, h2.fr (en_stab _) hR (by intro k hk hs; first | exact hs.elim | (have hs : k = _ := hs; have hk : _ ≤ k := hk; omega))⟩) | (obtain ⟨s, c, s3, c3, h1, h2⟩ := hG; exact ⟨s, c, s3, c3, h1, h2.fr (en_stab _) hR (by intro k hk hs; first | exact hs.elim | (have hs : k = _ := hs; have hk : _ ≤ k := hk; omega))⟩) | (obtain ⟨s, c, s3, c3, h1, h2⟩ := hG; exact ⟨s, c, s3, c3, h1.fr hR (fun hs => hs.elim), h2.fr (en_stab _) hR (by intro k hk hs; first | exact hs.elim | (have hs : k = _ := hs; have hk : _ ≤ k := hk; omega))⟩) | exact absurd (hw.symm.trans (by kernel_rfl)) Bool.false_ne_true)) ?_
 simp only [List.take_succ_cons, List.take_zero, List.take_nil, List.drop_succ_cons, List.drop_zero, List.drop_nil]
 refine mw_calm rfl (want rfl) (fun u1 eu1 fu1 => rn_loadBlk ag_35 sz_35 rfl (((((Bs1.ext E2).ext E3).ext Eb2).ne Es2 (by omega)).ext ((ext_drawn _).trans' (show Fr no _ _ from eu1))) rfl rfl) ?_
 refine mw_calm rfl (want rfl) (fun u2 eu2 fu2 => rn_loadBlk ag_42 sz_42 rfl (Bs2.ext ((ext_drawn _).trans' (show Fr no _ _ from eu2))) rfl rfl) ?_
 refine mw_any rfl rfl (want rfl) (fun u3 eu3 fu3 => do_call (ent_func cf_14 (argsC (t_int rfl) args0)) (num_ct _ u3) (fun v w' E h => ⟨⟨E, trivial⟩, h⟩)) (fun I28 v28 => ?_)
 refine mw_calm (v := .agg #[.int .i64 1, .int .i64 1, .int .i64 0, .int .u8 1, .int .i64 3]) rfl (want rfl) (fun u4 eu4 fu4 => by obtain rfl := fu4 28 _ rfl (show (28 : Nat) ∈ _ from by decide); exact rn_build3 (t_int rfl) (t_int rfl) (t_agg rfl) (fun w => bd_51_0_1_3 _ _ _ _ w)) ?_
 refine mw_any rfl rfl (want rfl) (fun u5 eu5 fu5 => do_call (ent_func cf_13 (argsC (t_agg rfl) (argsC (t_agg rfl) (argsC (t_agg rfl) args0)))) (takea1_ct exS sa ca sb cb (fun k => w0.heap.size ≤ k ∧ k < w1.heap.size) exOk 1 1 1 (1, 3) tok1 exp2 exn6 none 0 none 0 (fun _ => False) (by decide) exr1 u5 (hSb4.ext ((ext_drawn _).trans' (show Fr no _ _ from eu5))) (fun k hk => by have h9 := hk.2; have h8 := (((ext_drawn _).trans' (show Fr no _ _ from eu5))).size; omega) (Sl.nil _) (Sl.nil _)) (fun v w' E h => ⟨⟨E, trivial⟩, (by obtain ⟨s, c, s3, c3, h1, h2⟩ := h; exact ⟨s, c, s3, c3, h1, en_wide (fun k hk => Nat.le_trans (((ext_drawn _).trans' (show Fr no _ _ from eu5))).size hk) h2⟩)⟩)) (fun I30 v30 => ?_)
 refine mw_any rfl rfl (want rfl) (fun u6 eu6 fu6 => by obtain ⟨s, c, s3, c3, rfl, hE0⟩ := fu6 30 _ rfl (show (30 : Nat) ∈ _ from by decide); exact do_value (mv_tuple rfl) ⟨⟨Fr.refl no _, trivial⟩, ⟨s, c, s3, c3, rfl, hE0⟩⟩) (fun I25 v25 => ?_)
 refine mw_any rfl rfl (want rfl) (fun u7 eu7 fu7 => by obtain ⟨s, c, s3, c3, rfl, hE0⟩ := fu7 25 _ rfl (show (25 : Nat) ∈ _ from by decide); exact do_value (rn_extract rfl rfl) ⟨⟨Fr.refl no _, trivial⟩, ⟨s, c, s3, c3, rfl, hE0⟩⟩) (fun I31 v31 => ?_)
 refine mw_calm (v := .slice none 0 0) rfl (want rfl) (fun u8 eu8 fu8 => by obtain ⟨s, c, s3, c3, rfl, hE0⟩ := fu8 25 _ rfl (show (25 : Nat) ∈ _ from by decide); exact rn_extract rfl rfl) ?_
 refine mw_calm (v := .int .i64 0) rfl (want rfl) (fun u9 eu9 fu9 => by obtain ⟨s, c, s3, c3, rfl, hE0⟩ := fu9 25 _ rfl (show (25 : Nat) ∈ _ from by decide); exact rn_extract rfl rfl) ?_
 refine mw_eff (e := 1000000) rfl (want rfl) (fun u10 eu10 fu10 => by obtain ⟨s, c, s3, c3, rfl, hE0⟩ := fu10 31 _ rfl (show (31 : Nat) ∈ _ from by decide); exact (do_setC (o := 0) (m := 4) sz_42 rfl rfl rfl rfl rfl (Bs2.ext ((ext_drawn _).trans' (show Fr no _ _ from eu10))) (Nat.le_of_ble_eq_true rfl)).mono (fun v w' h => ⟨⟨h.1, trivial⟩, s, c, s3, c3, h.2, hE0.fr (en_stab _) h.1 (fun k hk e => by have hk : _ ≤ k := hk; have e : k = b2 := e; omega)⟩)) (fun I1000000 v1000000 => ?_)
 refine mw_calm rfl (want rfl) (fun u11 eu11 fu11 => as_slice rfl) ?_
 refine mw_nil (fun w8 E4' H1 => ?_)
 have E4 := mG E4'
 have F8 := F7.new E4 (fun kq => (fun h => (fun h => (by omega)) h))
 have hz4 := E4.size
 have HG9 := H1 1000000 _ rfl
 obtain ⟨sX1, cX1, sX3, cX3, hBX, hE1⟩ := HG9
 refine lx_value (want rfl) (as_int rfl) ?_
 refine lx_nil ?_
 refine wk_seq ?_
 refine wk_seq ?_
 refine wk_region ?_
 refine lx_value (want rfl) (mv_int rfl) ?_
 refine lx_value (want rfl) (rn_neq rfl rfl) ?_
 refine lx_dec_f ((fun g => g rfl)) ?_
 refine lx_value (want rfl) (mv_bool rfl) ?_
 refine lx_value (want_if (j := 2) (d := 36) (x := false) (y := false) rfl rfl (by decide) rfl) (mv_int rfl) ?_
 refine lx_value (want_if (j := 2) (d := 36) (x := false) (y := false) rfl rfl (by decide) rfl) (rn_neq rfl rfl) ?_
 refine lx_dec_f ((fun g => g rfl)) ?_
 refine lx_value (want rfl) (pick_f rfl rfl) ?_
 refine lx_value (want rfl) (mv_bool rfl) ?_
 refine lx_value (want_if (j := 6) (d := 40) (x := false) (y := false) rfl rfl (by decide) rfl) (mv_int rfl) ?_
 refine lx_value (want_if (j := 6) (d := 40) (x := false) (y := false) rfl rfl (by decide) rfl) (rn_neq rfl rfl) ?_
 refine lx_dec_f ((fun g => g rfl)) ?_
 refine lx_value (want rfl) (pick_f rfl rfl) ?_
 refine lx_value (want rfl) (mv_bool rfl) ?_
 refine lx_value (want_if (j := 10) (d := 44) (x := false) (y := false) rfl rfl (by decide) rfl) (mv_int rfl) ?_
 refine lx_value (want_if (j := 10) (d := 44) (x := false) (y := false) rfl rfl (by decide) rfl) (rn_neq rfl rfl) ?_
 refine lx_dec_f ((fun g => g exp22)) ?_
 refine lx_value (want rfl) (pick_f rfl rfl) ?_
 refine lx_value (want rfl) (mv_bool rfl) ?_
 refine lx_value (want_if (j := 14) (d := 48) (x := false) (y := false) rfl rfl (by decide) rfl) (mv_int rfl) ?_
 refine lx_value (want_if (j := 14) (d := 48) (x := false) (y := false) rfl rfl (by decide) rfl) (rn_neq rfl rfl) ?_
 refine lx_dec_f ((fun g => g exo22)) ?_
 refine lx_value (want rfl) (pick_f rfl rfl) ?_
 refine lx_value (want rfl) (mv_bool rfl) ?_
 refine lx_value (want_if (j := 18) (d := 52) (x := false) (y := false) rfl rfl (by decide) rfl) (mv_slice rfl) ?_
 refine lx_value (want_if (j := 18) (d := 52) (x := false) (y := false) rfl rfl (by decide) rfl) (rn_len Tryz.underlying39 rfl) ?_
 refine lx_value (want_if (j := 18) (d := 52) (x := false) (y := false) rfl rfl (by decide) rfl) (rn_neq rfl rfl) ?_
 refine lx_dec_f ((fun g => g rfl)) ?_
 refine lx_value (want rfl) (pick_f rfl rfl) ?_
 refine lx_nil ?_
 refine wk_cond_f rfl ?_
 refine wk_skip ?_
 refine wk_seq ?_
 have hSb7 := hSR.fr (Fr.trans (Fr.trans (Fr.ext (Fr.ext (Fr.ext (Fr.trans (Fr.ext (Fr.refl (fun k => k = b1 ∨ k = b2 ∨ (fun kq => kq = b2) k) w1) Eb1) Es1 (fun k _ h => (.inl h))) E2) E3) Eb2) Es2 (fun k _ h => (.inr (.inl h)))) E4 (fun k _ h => (.inr (.inr h)))) (fun k hk h => by have h9 := hk.2; (try dsimp only at h); first | exact h.elim | omega)
 have hEb := hE1.fr (en_stab _) (Fr.refl no w8) (fun k hk h => by have h9 : _ ≤ k := hk; (try dsimp only at h); first | exact h.elim | omega)
 refine wk_mixW 11 (fun j => match j with | 9 => (fun kq => kq = b2) | _ => no) (fun j (w w' : World) => match j with | _ => True) (fun i => match i with | 0 => no | 1 => no | 2 => no | 3 => no | 4 => no | 5 => no | 6 => no | 7 => (fun kq => kq = b2) | 8 => (fun kq => kq = b2) | 9 => no | 10 => (fun kq => kq = b2) | _ => (fun kq => kq = b2)) (fun kq => kq = b2) (fun kS => match kS with | 2 => .any 60 (fun I v w => v = .agg #[.int .u8 1, .int .i64 4]) | 4 => .any 62 (fun I v w => ∃ s c s3 c3, v = .tuple #[.agg #[.int .i64 ((1 : Nat) : Int), .slice s 1 c, .slice s3 1 c3, .slice none 0 0], .slice none 0 0, .int .i64 0] ∧ EnS (fun k => w8.heap.size ≤ k) w s [⟨1, 1, [(1, 3), (0, 0)]⟩] ∧ EnS (fun k => w8.heap.size ≤ k) w s3 [⟨2, 1, [(0, 0), (1, 4)]⟩]) | 5 => .any 57 (fun I v w => ∃ s c s3 c3, v = .tuple #[.agg #[.int .i64 ((1 : Nat) : Int), .slice s 1 c, .slice s3 1 c3, .slice none 0 0], .slice none 0 0, .int .i64 0] ∧ EnS (fun k => w8.heap.size ≤ k) w s [⟨1, 1, [(1, 3), (0, 0)]⟩] ∧ EnS (fun k => w8.heap.size ≤ k) w s3 [⟨2, 1, [(0, 0), (1, 4)]⟩]) | 6 => .any 63 (fun I v w => ∃ s c s3 c3, v = .agg #[.int .i64 ((1 : Nat) : Int), .slice s 1 c, .slice s3 1 c3, .slice none 0 0] ∧ EnS (fun k => w8.heap.size ≤ k) w s [⟨1, 1, [(1, 3), (0, 0)]⟩] ∧ EnS (fun k => w8.heap.size ≤ k) w s3 [⟨2, 1, [(0, 0), (1, 4)]⟩]) | 9 => .any 1000000 (fun I v w => ∃ s c s3 c3, Blk w b2 [.int .i64 ((1 : Nat) : Int), .slice s 1 c, .slice s3 1 c3, .slice none 0 0] 42 ∧ EnS (fun k => w8.heap.size ≤ k) w s [⟨1, 1, [(1, 3), (0, 0)]⟩] ∧ EnS (fun k => w8.heap.size ≤ k) w s3 [⟨2, 1, [(0, 0), (1, 4)]⟩]) | _ => .none) (by kernel_rfl) (by kernel_rfl) ⟨by intro i e G o hk ho; (try dsimp only at hk); split at hk <;> first | (cases hk; done) | (injection hk with hk1 hk2; subst hk1; first | exact .inl ((congrArg (fun q => Option.bind q Oper.dst) ho).symm.trans (by rfl)) | (refine .inr fun j oj hoj => ?_; obtain ⟨q1, q2⟩ := ghost_ok (by kernel_rfl) j oj hoj; exact ⟨q1, q2, fun G' hj h => by (try dsimp only at h); split at h <;> first | (cases h; done) | (exact absurd rfl hj) | (injection h with h1 _; first | (cases h1; done) | (exact absurd h1 (by decide)))⟩))⟩ (by intro i j hij hw k hk; (try dsimp only at hk); split at hk <;> (try exact hk.elim) <;> (try dsimp only) <;> split <;> first | exact hk | exact .inl hk | exact .inr hk | exact absurd rfl hij | exact absurd (hw.symm.trans (by kernel_rfl)) Bool.false_ne_true) (by intro j k hk; (try dsimp only at hk); split at hk <;> first | exact hk.elim | exact hk | exact .inl hk | exact .inr hk) (by intro kS e G hk j hkj hw I v w w' hR hX hG; (try dsimp only at hk); split at hk <;> first | (cases hk; done) | (injection hk with hk1 hk2; subst hk1; subst hk2; (try dsimp only at hR hX hG); split at hR <;> first | exact absurd rfl hkj | exact hG | (obtain ⟨s, c, s3, c3, h1, h2, h3⟩ := hG; exact ⟨s, c, s3, c3, h1, h2.fr (en_stab _) hR (by intro k hk hs; first | exact hs.elim | (have hs : k = _ := hs; have hk : _ ≤ k := hk; omega)), h3.fr (en_stab _) hR (by intro k hk hs; first | exact hs.elim | (have hs : k = _ := hs; have hk : _ ≤ k := hk; omega))⟩) | (obtain ⟨s, c, s3, c3, h1, h2, h3⟩ := hG; exact ⟨s, c, s3, c3, h1, h2.fr (en_stab _) hR (by intro k hk hs; first | exact hs.elim | (have hs : k = _ := hs; have hk : _ ≤ k := hk; omega)), h3.fr (en_stab _) hR (by intro k hk hs; first | exact hs.elim | (have hs : k = _ := hs; have hk : _ ≤ k := hk; omega))⟩) | (obtain ⟨s, c, s3, c3, h1, h2, h3⟩ := hG; exact ⟨s, c, s3, c3, h1, h2.fr (en_stab _) hR (by intro k hk hs; first | exact hs.elim | (have hs : k = _ := hs; have hk : _ ≤ k := hk; omega)), h3.fr (en_stab _) hR (by intro k hk hs; first | exact hs.elim | (have hs : k = _ := hs; have hk : _ ≤ k := hk; omega))⟩) | (obtain ⟨s, c, s3, c3, h1, h2, h3⟩ := hG; exact ⟨s, c, s3, c3, h1.fr hR (fun hs => hs.elim), h2.fr (en_stab _) hR (by intro k hk hs; first | exact hs.elim | (have hs : k = _ := hs; have hk : _ ≤ k := hk; omega)), h3.fr (en_stab _) hR (by intro k hk hs; first | exact hs.elim | (have hs : k = _ := hs; have hk : _ ≤ k := hk; omega))⟩) | exact absurd (hw.symm.trans (by kernel_rfl)) Bool.false_ne_true)) ?_
 simp only [List.take_succ_cons, List.take_zero, List.take_nil, List.drop_succ_cons, List.drop_zero, List.drop_nil]
 refine mw_calm rfl (want rfl) (fun u12 eu12 fu12 => rn_loadBlk ag_35 sz_35 rfl ((((((Bs1.ext E2).ext E3).ext Eb2).ne Es2 (by omega)).fr E4 (fun h => (fun h => absurd h (by omega)) h)).ext ((ext_drawn _).trans' (show Fr no _ _ from eu12))) rfl rfl) ?_
 refine mw_calm rfl (want rfl) (fun u13 eu13 fu13 => rn_loadBlk ag_42 sz_42 rfl (hBX.ext ((ext_drawn _).trans' (show Fr no _ _ from eu13))) rfl rfl) ?_
 refine mw_any rfl rfl (want rfl) (fun u14 eu14 fu14 => do_call (ent_func cf_14 (argsC (t_int rfl) args0)) (num_ct _ u14) (fun v w' E h => ⟨⟨E, trivial⟩, h⟩)) (fun I60 v60 => ?_)
 refine mw_calm (v := .agg #[.int .i64 2, .int .i64 1, .int .i64 1, .int .u8 1, .int .i64 4]) rfl (want rfl) (fun u15 eu15 fu15 => by obtain rfl := fu15 60 _ rfl (show (60 : Nat) ∈ _ from by decide); exact rn_build4 (t_int rfl) (t_int rfl) (t_int rfl) (t_agg rfl) (fun w => bd_51_0_1_2_3 _ _ _ _ _ w)) ?_
 refine mw_any rfl rfl (want rfl) (fun u16 eu16 fu16 => do_call (ent_func cf_13 (argsC (t_agg rfl) (argsC (t_agg rfl) (argsC (t_agg rfl) args0)))) (takeb1_ct exS sa ca sb cb (fun k => w0.heap.size ≤ k ∧ k < w1.heap.size) exOk 1 2 1 (1, 4) tok2 exp2 exn6 sX1 cX1 sX3 cX3 _ ⟨1, 1, [(1, 3), (0, 0)]⟩ (by decide) exq1 exr2 u16 (hSb7.ext ((ext_drawn _).trans' (show Fr no _ _ from eu16))) (fun k hk => by have h9 := hk.2; have h8 := (((ext_drawn _).trans' (show Fr no _ _ from eu16))).size; omega) (hEb.ext (en_stab _) ((ext_drawn _).trans' (show Fr no _ _ from eu16))) (Sl.nil _)) (fun v w' E h => ⟨⟨E, trivial⟩, (by obtain ⟨s, c, s3, c3, h1, h2, h3⟩ := h; exact ⟨s, c, s3, c3, h1, en_wide (fun k hk => Nat.le_trans (((ext_drawn _).trans' (show Fr no _ _ from eu16))).size hk) h2, en_wide (fun k hk => Nat.le_trans (((ext_drawn _).trans' (show Fr no _ _ from eu16))).size hk) h3⟩)⟩)) (fun I62 v62 => ?_)
 refine mw_any rfl rfl (want rfl) (fun u17 eu17 fu17 => by obtain ⟨s, c, s3, c3, rfl, hE0, hE1⟩ := fu17 62 _ rfl (show (62 : Nat) ∈ _ from by decide); exact do_value (mv_tuple rfl) ⟨⟨Fr.refl no _, trivial⟩, ⟨s, c, s3, c3, rfl, hE0, hE1⟩⟩) (fun I57 v57 => ?_)
 refine mw_any rfl rfl (want rfl) (fun u18 eu18 fu18 => by obtain ⟨s, c, s3, c3, rfl, hE0, hE1⟩ := fu18 57 _ rfl (show (57 : Nat) ∈ _ from by decide); exact do_value (rn_extract rfl rfl) ⟨⟨Fr.refl no _, trivial⟩, ⟨s, c, s3, c3, rfl, hE0, hE1⟩⟩) (fun I63 v63 => ?_)
 refine mw_calm (v := .slice none 0 0) rfl (want rfl) (fun u19 eu19 fu19 => by obtain ⟨s, c, s3, c3, rfl, hE0, hE1⟩ := fu19 57 _ rfl (show (57 : Nat) ∈ _ from by decide); exact rn_extract rfl rfl) ?_
 refine mw_calm (v := .int .i64 0) rfl (want rfl) (fun u20 eu20 fu20 => by obtain ⟨s, c, s3, c3, rfl, hE0, hE1⟩ := fu20 57 _ rfl (show (57 : Nat) ∈ _ from by decide); exact rn_extract rfl rfl) ?_
 refine mw_eff (e := 1000000) rfl (want rfl) (fun u21 eu21 fu21 => by obtain ⟨s, c, s3, c3, rfl, hE0, hE1⟩ := fu21 63 _ rfl (show (63 : Nat) ∈ _ from by decide); exact (do_setC (o := 0) (m := 4) sz_42 rfl rfl rfl rfl rfl (hBX.ext ((ext_drawn _).trans' (show Fr no _ _ from eu21))) (Nat.le_of_ble_eq_true rfl)).mono (fun v w' h => ⟨⟨h.1, trivial⟩, s, c, s3, c3, h.2, hE0.fr (en_stab _) h.1 (fun k hk e => by have hk : _ ≤ k := hk; have e : k = b2 := e; omega), hE1.fr (en_stab _) h.1 (fun k hk e => by have hk : _ ≤ k := hk; have e : k = b2 := e; omega)⟩)) (fun I1000000 v1000000 => ?_)
 refine mw_calm rfl (want rfl) (fun u22 eu22 fu22 => as_slice rfl) ?_
 refine mw_nil (fun w9 E5' H2 => ?_)
 have E5 := mG E5'
 have F9 := F8.new E5 (fun kq => (fun h => (fun h => (by omega)) h))
 have hz5 := E5.size
 have HG9 := H2 1000000 _ rfl
 obtain ⟨sY1, cY1, sY3, cY3, hBY, hF1, hF3⟩ := HG9
 refine lx_value (want rfl) (as_int rfl) ?_
 refine lx_nil ?_
 refine wk_seq ?_
 refine wk_seq ?_
 refine wk_region ?_
 refine lx_value (want rfl) (mv_int rfl) ?_
 refine lx_value (want rfl) (rn_neq rfl rfl) ?_
 refine lx_dec_f ((fun g => g rfl)) ?_
 refine lx_value (want rfl) (mv_bool rfl) ?_
 refine lx_value (want_if (j := 2) (d := 68) (x := false) (y := false) rfl rfl (by decide) rfl) (mv_slice rfl) ?_
 refine lx_value (want_if (j := 2) (d := 68) (x := false) (y := false) rfl rfl (by decide) rfl) (rn_len Tryz.underlying39 rfl) ?_
 refine lx_value (want_if (j := 2) (d := 68) (x := false) (y := false) rfl rfl (by decide) rfl) (rn_neq rfl rfl) ?_
 refine lx_dec_f ((fun g => g rfl)) ?_
 refine lx_value (want rfl) (pick_f rfl rfl) ?_
 refine lx_value (want rfl) (mv_bool rfl) ?_
 refine lx_value (want_if (j := 7) (d := 73) (x := false) (y := false) rfl rfl (by decide) rfl) (rn_fieldAddr fa_42_2 rfl) ?_
 refine lx_value (want_if (j := 7) (d := 73) (x := false) (y := false) rfl rfl (by decide) rfl) (rn_load1Blk ag_39 rfl hBY rfl) ?_
 refine lx_value (want_if (j := 7) (d := 73) (x := false) (y := false) rfl rfl (by decide) rfl) (rn_len Tryz.underlying39 rfl) ?_
 refine lx_value (want_if (j := 7) (d := 73) (x := false) (y := false) rfl rfl (by decide) rfl) (rn_neq rfl rfl) ?_
 refine lx_dec_f ((fun g => g rfl)) ?_
 refine lx_value (want rfl) (pick_f rfl rfl) ?_
 refine lx_nil ?_
 refine wk_cond_f rfl ?_
 refine wk_skip ?_
 refine wk_seq ?_
 have hSb10 := hSR.fr (Fr.trans (Fr.trans (Fr.trans (Fr.ext (Fr.ext (Fr.ext (Fr.trans (Fr.ext (Fr.refl (fun k => k = b1 ∨ k = b2 ∨ (fun kq => kq = b2) k) w1) Eb1) Es1 (fun k _ h => (.inl h))) E2) E3) Eb2) Es2 (fun k _ h => (.inr (.inl h)))) E4 (fun k _ h => (.inr (.inr h)))) E5 (fun k _ h => (.inr (.inr h)))) (fun k hk h => by have h9 := hk.2; (try dsimp only at h); first | exact h.elim | omega)
 have hFb := hF1.fr (en_stab _) (Fr.refl no w9) (fun k hk h => by have h9 : _ ≤ k := hk; (try dsimp only at h); first | exact h.elim | omega)
 have hFd := hF3.fr (en_stab _) (Fr.refl no w9) (fun k hk h => by have h9 : _ ≤ k := hk; (try dsimp only at h); first | exact h.elim | omega)
 refine wk_mixW 11 (fun j => match j with | 9 => (fun kq => kq = b2) | _ => no) (fun j (w w' : World) => match j with | _ => True) (fun i => match i with | 0 => no | 1 => no | 2 => no | 3 => no | 4 => no | 5 => no | 6 => no | 7 => (fun kq => kq = b2) | 8 => (fun kq => kq = b2) | 9 => no | 10 => (fun kq => kq = b2) | _ => (fun kq => kq = b2)) (fun kq => kq = b2) (fun kS => match kS with | 2 => .any 82 (fun I v w => v = .agg #[.int .u8 1, .int .i64 0]) | 4 => .any 84 (fun I v w => ∃ s c s3 c3 sR cR, v = .tuple #[.agg #[.int .i64 ((1 : Nat) : Int), .slice s 1 c, .slice s3 0 c3, .slice none 0 0], .slice sR 1 cR, .int .i64 0] ∧ EnS (fun k => w9.heap.size ≤ k) w s [⟨2, 1, [(0, 0), (1, 4)]⟩] ∧ EnS (fun k => w9.heap.size ≤ k) w sR [⟨1, 1, [(1, 3), (1, 0)]⟩]) | 5 => .any 79 (fun I v w => ∃ s c s3 c3 sR cR, v = .tuple #[.agg #[.int .i64 ((1 : Nat) : Int), .slice s 1 c, .slice s3 0 c3, .slice none 0 0], .slice sR 1 cR, .int .i64 0] ∧ EnS (fun k => w9.heap.size ≤ k) w s [⟨2, 1, [(0, 0), (1, 4)]⟩] ∧ EnS (fun k => w9.heap.size ≤ k) w sR [⟨1, 1, [(1, 3), (1, 0)]⟩]) | 6 => .any 85 (fun I v w => ∃ s c s3 c3, v = .agg #[.int .i64 ((1 : Nat) : Int), .slice s 1 c, .slice s3 0 c3, .slice none 0 0] ∧ EnS (fun k => w9.heap.size ≤ k) w s [⟨2, 1, [(0, 0), (1, 4)]⟩]) | 7 => .any 86 (fun I v w => ∃ sR cR, v = .slice sR 1 cR ∧ EnS (fun k => w9.heap.size ≤ k) w sR [⟨1, 1, [(1, 3), (1, 0)]⟩]) | 9 => .any 1000000 (fun I v w => ∃ s c s3 c3, Blk w b2 [.int .i64 ((1 : Nat) : Int), .slice s 1 c, .slice s3 0 c3, .slice none 0 0] 42 ∧ EnS (fun k => w9.heap.size ≤ k) w s [⟨2, 1, [(0, 0), (1, 4)]⟩]) | 10 => .any 7 (fun I v w => ∃ sR cR, v = .slice sR 1 cR ∧ EnS (fun k => w9.heap.size ≤ k) w sR [⟨1, 1, [(1, 3), (1, 0)]⟩]) | _ => .none) (by kernel_rfl) (by kernel_rfl) ⟨by intro i e G o hk ho; (try dsimp only at hk); split at hk <;> first | (cases hk; done) | (injection hk with hk1 hk2; subst hk1; first | exact .inl ((congrArg (fun q => Option.bind q Oper.dst) ho).symm.trans (by rfl)) | (refine .inr fun j oj hoj => ?_; obtain ⟨q1, q2⟩ := ghost_ok (by kernel_rfl) j oj hoj; exact ⟨q1, q2, fun G' hj h => by (try dsimp only at h); split at h <;> first | (cases h; done) | (exact absurd rfl hj) | (injection h with h1 _; first | (cases h1; done) | (exact absurd h1 (by decide)))⟩))⟩ (by intro i j hij hw k hk; (try dsimp only at hk); split at hk <;> (try exact hk.elim) <;> (try dsimp only) <;> split <;> first | exact hk | exact .inl hk | exact .inr hk | exact absurd rfl hij | exact absurd (hw.symm.trans (by kernel_rfl)) Bool.false_ne_true) (by intro j k hk; (try dsimp only at hk); split at hk <;> first | exact hk.elim | exact hk | exact .inl hk | exact .inr hk) (by intro kS e G hk j hkj hw I v w w' hR hX hG; (try dsimp only at hk); split at hk <;> first | (cases hk; done) | (injection hk with hk1 hk2; subst hk1; subst hk2; (try dsimp only at hR hX hG); split at hR <;> first | exact absurd rfl hkj | exact hG | (obtain ⟨s, c, s3, c3, sR, cR, h1, h2, h3⟩ := hG; exact ⟨s, c, s3, c3, sR, cR, h1, h2.fr (en_stab _) hR (by intro k hk hs; first | exact hs.elim | (have hs : k = _ := hs; have hk : _ ≤ k := hk; omega)), h3.fr (en_stab _) hR (by intro k hk hs; first | exact hs.elim | (have hs : k = _ := hs; have hk : _ ≤ k := hk; omega))⟩) | (obtain ⟨s, c, s3, c3, sR, cR, h1, h2, h3⟩ := hG; exact ⟨s, c, s3, c3, sR, cR, h1, h2.fr (en_stab _) hR (by intro k hk hs; first | exact hs.elim | (have hs : k = _ := hs; have hk : _ ≤ k := hk; omega)), h3.fr (en_stab _) hR (by intro k hk hs; first | exact hs.elim | (have hs : k = _ := hs; have hk : _ ≤ k := hk; omega))⟩) | (obtain ⟨s, c, s3, c3, h1, h2⟩ := hG; exact ⟨s, c, s3, c3, h1, h2.fr (en_stab _) hR (by intro k hk hs; first | exact hs.elim | (have hs : k = _ := hs; have hk : _ ≤ k := hk; omega))⟩) | (obtain ⟨s, c, s3, c3, h1, h2⟩ := hG; exact ⟨s, c, s3, c3, h1.fr hR (fun hs => hs.elim), h2.fr (en_stab _) hR (by intro k hk hs; first | exact hs.elim | (have hs : k = _ := hs; have hk : _ ≤ k := hk; omega))⟩) | (obtain ⟨sR, cR, h1, h2⟩ := hG; exact ⟨sR, cR, h1, h2.fr (en_stab _) hR (by intro k hk hs; first | exact hs.elim | (have hs : k = _ := hs; have hk : _ ≤ k := hk; omega))⟩) | (obtain ⟨sR, cR, h1, h2⟩ := hG; exact ⟨sR, cR, h1, h2.fr (en_stab _) hR (by intro k hk hs; first | exact hs.elim | (have hs : k = _ := hs; have hk : _ ≤ k := hk; omega))⟩) | exact absurd (hw.symm.trans (by kernel_rfl)) Bool.false_ne_true)) ?_
 simp only [List.take_succ_cons, List.take_zero, List.take_nil, List.drop_succ_cons, List.drop_zero, List.drop_nil]
 refine mw_calm rfl (want rfl) (fun u23 eu23 fu23 => rn_loadBlk ag_35 sz_35 rfl (((((((Bs1.ext E2).ext E3).ext Eb2).ne Es2 (by omega)).fr E4 (fun h => (fun h => absurd h (by omega)) h)).fr E5 (fun h => (fun h => absurd h (by omega)) h)).ext ((ext_drawn _).trans' (show Fr no _ _ from eu23))) rfl rfl) ?_
 refine mw_calm rfl (want rfl) (fun u24 eu24 fu24 => rn_loadBlk ag_42 sz_42 rfl (hBY.ext ((ext_drawn _).trans' (show Fr no _ _ from eu24))) rfl rfl) ?_
 refine mw_any rfl rfl (want rfl) (fun u25 eu25 fu25 => do_call (ent_func cf_14 (argsC (t_int rfl) args0)) (num_ct _ u25) (fun v w' E h => ⟨⟨E, trivial⟩, h⟩)) (fun I82 v82 => ?_)
 refine mw_calm (v := .agg #[.int .i64 1, .int .i64 1, .int .i64 1, .int .u8 1, .int .i64 0]) rfl (want rfl) (fun u26 eu26 fu26 => by obtain rfl := fu26 82 _ rfl (show (82 : Nat) ∈ _ from by decide); exact rn_build4 (t_int rfl) (t_int rfl) (t_int rfl) (t_agg rfl) (fun w => bd_51_0_1_2_3 _ _ _ _ _ w)) ?_
 refine mw_any rfl rfl (want rfl) (fun u27 eu27 fu27 => do_call (ent_func cf_13 (argsC (t_agg rfl) (argsC (t_agg rfl) (argsC (t_agg rfl) args0)))) (takec1_ct exS sa ca sb cb (fun k => w0.heap.size ≤ k ∧ k < w1.heap.size) exOk 1 1 1 (1, 0) tok3 exp2 exn6 sY1 cY1 sY3 cY3 _ (1, 3) ⟨2, 1, [(0, 0), (1, 4)]⟩ (by decide) (by decide) (by decide) exr3 u27 (hSb10.ext ((ext_drawn _).trans' (show Fr no _ _ from eu27))) (fun k hk => by have h9 := hk.2; have h8 := (((ext_drawn _).trans' (show Fr no _ _ from eu27))).size; omega) (hFb.ext (en_stab _) ((ext_drawn _).trans' (show Fr no _ _ from eu27))) (hFd.ext (en_stab _) ((ext_drawn _).trans' (show Fr no _ _ from eu27)))) (fun v w' E h => ⟨⟨E, trivial⟩, (by obtain ⟨s, c, s3, c3, sR, cR, h1, h2, h3⟩ := h; exact ⟨s, c, s3, c3, sR, cR, h1, en_wide (fun k hk => Nat.le_trans (((ext_drawn _).trans' (show Fr no _ _ from eu27))).size hk) h2, en_wide (fun k hk => Nat.le_trans (((ext_drawn _).trans' (show Fr no _ _ from eu27))).size hk) h3⟩)⟩)) (fun I84 v84 => ?_)
 refine mw_any rfl rfl (want rfl) (fun u28 eu28 fu28 => by obtain ⟨s, c, s3, c3, sR, cR, rfl, hE0, hE1⟩ := fu28 84 _ rfl (show (84 : Nat) ∈ _ from by decide); exact do_value (mv_tuple rfl) ⟨⟨Fr.refl no _, trivial⟩, ⟨s, c, s3, c3, sR, cR, rfl, hE0, hE1⟩⟩) (fun I79 v79 => ?_)
 refine mw_any rfl rfl (want rfl) (fun u29 eu29 fu29 => by obtain ⟨s, c, s3, c3, sR, cR, rfl, hE0, hE1⟩ := fu29 79 _ rfl (show (79 : Nat) ∈ _ from by decide); exact do_value (rn_extract rfl rfl) ⟨⟨Fr.refl no _, trivial⟩, ⟨s, c, s3, c3, rfl, hE0⟩⟩) (fun I85 v85 => ?_)
 refine mw_any rfl rfl (want rfl) (fun u30 eu30 fu30 => by obtain ⟨s, c, s3, c3, sR, cR, rfl, hE0, hE1⟩ := fu30 79 _ rfl (show (79 : Nat) ∈ _ from by decide); exact do_value (rn_extract rfl rfl) ⟨⟨Fr.refl no _, trivial⟩, ⟨sR, cR, rfl, hE1⟩⟩) (fun I86 v86 => ?_)
 refine mw_calm (v := .int .i64 0) rfl (want rfl) (fun u31 eu31 fu31 => by obtain ⟨s, c, s3, c3, sR, cR, rfl, hE0, hE1⟩ := fu31 79 _ rfl (show (79 : Nat) ∈ _ from by decide); exact rn_extract rfl rfl) ?_
 refine mw_eff (e := 1000000) rfl (want rfl) (fun u32 eu32 fu32 => by obtain ⟨s, c, s3, c3, rfl, hE0⟩ := fu32 85 _ rfl (show (85 : Nat) ∈ _ from by decide); exact (do_setC (o := 0) (m := 4) sz_42 rfl rfl rfl rfl rfl (hBY.ext ((ext_drawn _).trans' (show Fr no _ _ from eu32))) (Nat.le_of_ble_eq_true rfl)).mono (fun v w' h => ⟨⟨h.1, trivial⟩, s, c, s3, c3, h.2, hE0.fr (en_stab _) h.1 (fun k hk e => by have hk : _ ≤ k := hk; have e : k = b2 := e; omega)⟩)) (fun I1000000 v1000000 => ?_)
 refine mw_any rfl rfl (want rfl) (fun u33 eu33 fu33 => by obtain ⟨sR, cR, rfl, hEr⟩ := fu33 86 _ rfl (show (86 : Nat) ∈ _ from by decide); exact do_value (as_slice rfl) ⟨⟨Fr.refl no _, trivial⟩, ⟨sR, cR, rfl, hEr⟩⟩) (fun I7 v7 => ?_)
 refine mw_nil (fun w10 E6' H3 => ?_)
 have E6 := mG E6'
 have F10 := F9.new E6 (fun kq => (fun h => (fun h => (by omega)) h))
 have hz6 := E6.size
 have HG9 := H3 1000000 _ rfl
 obtain ⟨sW1, cW1, sW3, cW3, hBW, hH1⟩ := HG9
 obtain ⟨sR3, cR3, rfl, hHR⟩ := (H3 7 _ rfl)
 refine lx_value (want rfl) (as_int rfl) ?_
 refine lx_nil ?_
 refine wk_seq ?_
 refine wk_seq ?_
 have hHb := hH1.fr (en_stab _) (Fr.refl no w10) (fun k hk h => by have h9 : _ ≤ k := hk; (try dsimp only at h); first | exact h.elim | omega)
 have hRb := hHR.fr (en_stab _) (Fr.refl no w10) (fun k hk h => by have h9 : _ ≤ k := hk; (try dsimp only at h); first | exact h.elim | omega)
 refine wk_mix 26 (fun kS => match kS with | 12 => .val (.agg #[.int .u8 1, .int .i64 4]) | 13 => .any (fun I v w => ∃ b, v = .slice (some ⟨b, 0, none⟩) 2 2 ∧ VlS (fun _ => True) w (some ⟨b, 0, none⟩) [(0, 0), (1, 4)]) | 14 => .any (fun I v w => ∃ b, v = .agg #[.int .i64 2, .int .i64 1, .slice (some ⟨b, 0, none⟩) 2 2] ∧ VlS (fun _ => True) w (some ⟨b, 0, none⟩) [(0, 0), (1, 4)]) | 15 => .any (fun I v w => ∃ s, v = .slice s 1 1 ∧ EnS (fun _ => True) w s [⟨2, 1, [(0, 0), (1, 4)]⟩]) | 16 => .val (.bool true) | 21 => .val (.agg #[.int .u8 1, .int .i64 3]) | 22 => .val (.agg #[.int .u8 1, .int .i64 0]) | 23 => .any (fun I v w => ∃ b, v = .slice (some ⟨b, 0, none⟩) 2 2 ∧ VlS (fun _ => True) w (some ⟨b, 0, none⟩) [(1, 3), (1, 0)]) | 24 => .any (fun I v w => ∃ b, v = .agg #[.int .i64 1, .int .i64 1, .slice (some ⟨b, 0, none⟩) 2 2] ∧ VlS (fun _ => True) w (some ⟨b, 0, none⟩) [(1, 3), (1, 0)]) | 25 => .any (fun I v w => ∃ s, v = .slice s 1 1 ∧ EnS (fun _ => True) w s [⟨1, 1, [(1, 3), (1, 0)]⟩]) | _ => .none) (by kernel_rfl) (by kernel_rfl) (by intro kS G hk; (try dsimp only at hk); (split at hk) <;> first | (cases hk; done) | (injection hk with hk; subst hk; exact ⟨by intro j hkj I v w w' hR hG; first | exact hG | (obtain ⟨b, h1, h2⟩ := hG; exact ⟨b, h1, h2.ext (vl_stab _) hR⟩) | (obtain ⟨b, h1, h2⟩ := hG; exact ⟨b, h1, h2.ext (vl_stab _) hR⟩) | (obtain ⟨s, h1, h2⟩ := hG; exact ⟨s, h1, h2.ext (en_stab _) hR⟩) | (obtain ⟨b, h1, h2⟩ := hG; exact ⟨b, h1, h2.ext (vl_stab _) hR⟩) | (obtain ⟨b, h1, h2⟩ := hG; exact ⟨b, h1, h2.ext (vl_stab _) hR⟩) | (obtain ⟨s, h1, h2⟩ := hG; exact ⟨s, h1, h2.ext (en_stab _) hR⟩), fun ⟨_, _, _, _, hs⟩ => by (try dsimp only at hs); split at hs <;> cases hs⟩)) (by intro kS s y G hk; (try dsimp only at hk); split at hk <;> cases hk) ?_
 simp only [List.take_succ_cons, List.take_zero, List.take_nil, List.drop_succ_cons, List.drop_zero, List.drop_nil]
 refine mx_calm rfl (want rfl) (fun u34 eu34 fu34 => mv_int rfl) ?_
 refine mx_calm rfl (want rfl) (fun u35 eu35 fu35 => rn_neq rfl rfl) ?_
 refine mx_dec_f ((fun g => g rfl)) ?_
 refine mx_calm rfl (want rfl) (fun u36 eu36 fu36 => mv_bool rfl) ?_
 refine mx_calm rfl (want_if (j := 2) (d := 90) (x := false) (y := false) rfl rfl (by decide) rfl) (fun u37 eu37 fu37 => rn_fieldAddr fa_42_2 rfl) ?_
 refine mx_calm rfl (want_if (j := 2) (d := 90) (x := false) (y := false) rfl rfl (by decide) rfl) (fun u38 eu38 fu38 => rn_load1Blk ag_39 rfl (hBW.ext ((ext_drawn _).trans' eu38)) rfl) ?_
 refine mx_calm rfl (want_if (j := 2) (d := 90) (x := false) (y := false) rfl rfl (by decide) rfl) (fun u39 eu39 fu39 => rn_len Tryz.underlying39 rfl) ?_
 refine mx_calm rfl (want_if (j := 2) (d := 90) (x := false) (y := false) rfl rfl (by decide) rfl) (fun u40 eu40 fu40 => rn_neq rfl rfl) ?_
 refine mx_dec_f ((fun g => g rfl)) ?_
 refine mx_calm rfl (want rfl) (fun u41 eu41 fu41 => pick_f rfl rfl) ?_
 refine mx_calm rfl (want rfl) (fun u42 eu42 fu42 => mv_bool rfl) ?_
 refine mx_calm rfl (want_if (j := 8) (d := 96) (x := false) (y := false) rfl rfl (by decide) rfl) (fun u43 eu43 fu43 => rn_fieldAddr fa_42_1 rfl) ?_
 refine mx_calm rfl (want_if (j := 8) (d := 96) (x := false) (y := false) rfl rfl (by decide) rfl) (fun u44 eu44 fu44 => rn_load1Blk ag_39 rfl (hBW.ext ((ext_drawn _).trans' eu44)) rfl) ?_
 refine mx_calm rfl (want_if (j := 8) (d := 96) (x := false) (y := false) rfl rfl (by decide) rfl) (fun u45 eu45 fu45 => rn_build0  (fun w => bd_48  w)) ?_
 refine mx_val rfl (want_if (j := 8) (d := 96) (x := false) (y := false) rfl rfl (by decide) rfl) (fun u46 eu46 fu46 => do_call (ent_func cf_14 (argsC (t_int rfl) args0)) (num_ct _ u46) (fun _ _ E h => ⟨E, h⟩)) ?_
 refine mx_any rfl rfl (want_if (j := 8) (d := 96) (x := false) (y := false) rfl rfl (by decide) rfl) (fun u47 eu47 fu47 => (do_newS2 (rn_bslice (xs := [.tmp 99, .tmp 100]) Tryz.underlying53 sz_48 ze_48 rfl (argsC (t_agg rfl) (argsC (t_agg rfl) args0)) (CL.cons rfl rfl (CL.cons rfl rfl CL.nil)) rfl (Nat.le_of_ble_eq_true rfl)) (show _ ≤ _ from (((ext_drawn _).trans' eu47)).size)).mono (fun v w' h => ⟨h.1, (by obtain ⟨b, h2, _, _, h5⟩ := h.2; exact ⟨b, h2, vl_blk2 (u := (0, 0)) (v := (1, 4)) h5⟩)⟩)) (fun I101 v101 => ?_)
 refine mx_any rfl rfl (want_if (j := 8) (d := 96) (x := false) (y := false) rfl rfl (by decide) rfl) (fun u48 eu48 fu48 => by obtain ⟨b101, rfl, hV101⟩ := fu48 101 _ rfl (show (101 : Nat) ∈ _ from by decide); exact do_value (rn_build3 (t_int rfl) (t_int rfl) (t_slice rfl) (fun w => bd_55_0_1_2 _ _ _ _ _ w)) ⟨(Fr.refl no _), ⟨b101, rfl, hV101⟩⟩) (fun I102 v102 => ?_)
 refine mx_any rfl rfl (want_if (j := 8) (d := 96) (x := false) (y := false) rfl rfl (by decide) rfl) (fun u49 eu49 fu49 => by obtain ⟨b102, rfl, hV102⟩ := fu49 102 _ rfl (show (102 : Nat) ∈ _ from by decide); exact (do_newS2 (rn_bslice (xs := [.tmp 102]) Tryz.underlying39 sz_55 ze_55 rfl (argsC (t_agg rfl) args0) (CL.cons rfl rfl CL.nil) rfl (Nat.le_of_ble_eq_true rfl)) (show _ ≤ _ from (((ext_drawn _).trans' eu49)).size)).mono (fun v w' h => ⟨h.1, (by obtain ⟨b, h2, _, _, h5⟩ := h.2; exact ⟨_, h2, en_cs (x := ⟨2, 1, [(0, 0), (1, 4)]⟩) (blk_cs h5) (hV102.ext (vl_stab _) h.1)⟩)⟩)) (fun I103 v103 => ?_)
 refine mx_val rfl (want_if (j := 8) (d := 96) (x := false) (y := false) rfl rfl (by decide) rfl) (fun u50 eu50 fu50 => by obtain ⟨s103, rfl, hE103⟩ := fu50 103 _ rfl (show (103 : Nat) ∈ _ from by decide); exact do_call (ent_func cf_15 (argsC (t_slice rfl) (argsC (t_slice rfl) args0))) (rentries_ct [⟨2, 1, [(0, 0), (1, 4)]⟩] _ _ _ _ _ _ (Nat.le_of_ble_eq_true rfl) (by decide) u50 (hHb.ext (en_stab _) ((ext_drawn _).trans' eu50)) hE103) (fun _ _ E h => ⟨E, h⟩)) ?_
 refine mx_b_t (rfl) ?_
 refine mx_calm rfl (want_if (j := 8) (d := 96) (x := false) (y := false) rfl rfl (by decide) rfl) (fun u51 eu51 fu51 => rn_not rfl) ?_
 refine mx_calm rfl (want rfl) (fun u52 eu52 fu52 => pick_f rfl rfl) ?_
 refine mx_calm rfl (want rfl) (fun u53 eu53 fu53 => mv_bool rfl) ?_
 refine mx_calm rfl (want_if (j := 19) (d := 107) (x := false) (y := false) rfl rfl (by decide) rfl) (fun u54 eu54 fu54 => mv_slice rfl) ?_
 refine mx_val rfl (want_if (j := 19) (d := 107) (x := false) (y := false) rfl rfl (by decide) rfl) (fun u55 eu55 fu55 => do_call (ent_func cf_14 (argsC (t_int rfl) args0)) (num_ct _ u55) (fun _ _ E h => ⟨E, h⟩)) ?_
 refine mx_val rfl (want_if (j := 19) (d := 107) (x := false) (y := false) rfl rfl (by decide) rfl) (fun u56 eu56 fu56 => do_call (ent_func cf_14 (argsC (t_int rfl) args0)) (num_ct _ u56) (fun _ _ E h => ⟨E, h⟩)) ?_
 refine mx_any rfl rfl (want_if (j := 19) (d := 107) (x := false) (y := false) rfl rfl (by decide) rfl) (fun u57 eu57 fu57 => (do_newS2 (rn_bslice (xs := [.tmp 109, .tmp 110]) Tryz.underlying53 sz_48 ze_48 rfl (argsC (t_agg rfl) (argsC (t_agg rfl) args0)) (CL.cons rfl rfl (CL.cons rfl rfl CL.nil)) rfl (Nat.le_of_ble_eq_true rfl)) (show _ ≤ _ from (((ext_drawn _).trans' eu57)).size)).mono (fun v w' h => ⟨h.1, (by obtain ⟨b, h2, _, _, h5⟩ := h.2; exact ⟨b, h2, vl_blk2 (u := (1, 3)) (v := (1, 0)) h5⟩)⟩)) (fun I111 v111 => ?_)
 refine mx_any rfl rfl (want_if (j := 19) (d := 107) (x := false) (y := false) rfl rfl (by decide) rfl) (fun u58 eu58 fu58 => by obtain ⟨b111, rfl, hV111⟩ := fu58 111 _ rfl (show (111 : Nat) ∈ _ from by decide); exact do_value (rn_build3 (t_int rfl) (t_int rfl) (t_slice rfl) (fun w => bd_55_0_1_2 _ _ _ _ _ w)) ⟨(Fr.refl no _), ⟨b111, rfl, hV111⟩⟩) (fun I112 v112 => ?_)
 refine mx_any rfl rfl (want_if (j := 19) (d := 107) (x := false) (y := false) rfl rfl (by decide) rfl) (fun u59 eu59 fu59 => by obtain ⟨b112, rfl, hV112⟩ := fu59 112 _ rfl (show (112 : Nat) ∈ _ from by decide); exact (do_newS2 (rn_bslice (xs := [.tmp 112]) Tryz.underlying39 sz_55 ze_55 rfl (argsC (t_agg rfl) args0) (CL.cons rfl rfl CL.nil) rfl (Nat.le_of_ble_eq_true rfl)) (show _ ≤ _ from (((ext_drawn _).trans' eu59)).size)).mono (fun v w' h => ⟨h.1, (by obtain ⟨b, h2, _, _, h5⟩ := h.2; exact ⟨_, h2, en_cs (x := ⟨1, 1, [(1, 3), (1, 0)]⟩) (blk_cs h5) (hV112.ext (vl_stab _) h.1)⟩)⟩)) (fun I113 v113 => ?_)
 refine mx_nil (fun w11 E7' H4 HS => ?_)
 have E7 := (ext_drawn _).trans' E7'
 have F11 := F10.ext E7
 have hz7 := E7.size
 have hI113 := (HS.1 113 _ rfl).2
 have hI112 := (HS.1 112 _ rfl).2
 have hI111 := (HS.1 111 _ rfl).2
 have hI103 := (HS.1 103 _ rfl).2
 have hI102 := (HS.1 102 _ rfl).2
 have hI101 := (HS.1 101 _ rfl).2
 have hX113_112 := HS.2 113 _ 112 _ rfl rfl (show (113 : Nat) ≠ 112 from by decide)
 have hX113_111 := HS.2 113 _ 111 _ rfl rfl (show (113 : Nat) ≠ 111 from by decide)
 have hX113_103 := HS.2 113 _ 103 _ rfl rfl (show (113 : Nat) ≠ 103 from by decide)
 have hX113_102 := HS.2 113 _ 102 _ rfl rfl (show (113 : Nat) ≠ 102 from by decide)
 have hX113_101 := HS.2 113 _ 101 _ rfl rfl (show (113 : Nat) ≠ 101 from by decide)
 have hX112_111 := HS.2 112 _ 111 _ rfl rfl (show (112 : Nat) ≠ 111 from by decide)
 have hX112_103 := HS.2 112 _ 103 _ rfl rfl (show (112 : Nat) ≠ 103 from by decide)
 have hX112_102 := HS.2 112 _ 102 _ rfl rfl (show (112 : Nat) ≠ 102 from by decide)
 have hX112_101 := HS.2 112 _ 101 _ rfl rfl (show (112 : Nat) ≠ 101 from by decide)
 have hX111_103 := HS.2 111 _ 103 _ rfl rfl (show (111 : Nat) ≠ 103 from by decide)
 have hX111_102 := HS.2 111 _ 102 _ rfl rfl (show (111 : Nat) ≠ 102 from by decide)
 have hX111_101 := HS.2 111 _ 101 _ rfl rfl (show (111 : Nat) ≠ 101 from by decide)
 have hX103_102 := HS.2 103 _ 102 _ rfl rfl (show (103 : Nat) ≠ 102 from by decide)
 have hX103_101 := HS.2 103 _ 101 _ rfl rfl (show (103 : Nat) ≠ 101 from by decide)
 have hX102_101 := HS.2 102 _ 101 _ rfl rfl (show (102 : Nat) ≠ 101 from by decide)
 simp only at hI113
 simp only at hI112
 simp only at hI111
 simp only at hI103
 simp only at hI102
 simp only at hI101
 simp only at hX113_112
 simp only at hX113_111
 simp only at hX113_103
 simp only at hX113_102
 simp only at hX113_101
 simp only at hX112_111
 simp only at hX112_103
 simp only at hX112_102
 simp only at hX112_101
 simp only at hX111_103
 simp only at hX111_102
 simp only at hX111_101
 simp only at hX103_102
 simp only at hX103_101
 simp only at hX102_101
 have g113 := H4 113 _ rfl
 obtain ⟨s113, rfl, hE113⟩ := g113
 have g112 := H4 112 _ rfl
 have g111 := H4 111 _ rfl
 have g103 := H4 103 _ rfl
 have g102 := H4 102 _ rfl
 have g101 := H4 101 _ rfl
 refine lx_call (want_if (j := 19) (d := 107) (x := false) (y := false) rfl rfl (by decide) rfl) (ent_func cf_15 (argsC (t_slice rfl) (argsC (t_slice rfl) args0))) (rentries_ct [⟨1, 1, [(1, 3), (1, 0)]⟩] _ _ _ _ _ _ (Nat.le_of_ble_eq_true rfl) (by decide) w11 (hRb.fr (en_stab _) (Fr.ext (Fr.refl no w10) E7) (fun k hk h => by have h9 : _ ≤ k := hk; (try dsimp only at h); first | exact h.elim | omega)) hE113) ?_
 rintro _ w12 E8 rfl
 have F12 := F11.ext E8
 have hz8 := E8.size
 refine lx_value (want_if (j := 19) (d := 107) (x := false) (y := false) rfl rfl (by decide) rfl) (rn_not rfl) ?_
 refine lx_value (want rfl) (pick_f rfl rfl) ?_
 refine lx_nil ?_
 refine wk_cond_f rfl ?_
 refine wk_skip ?_
 refine wk_seq ?_
 have hSb13 := hSR.fr (Fr.ext (Fr.ext (Fr.trans (Fr.trans (Fr.trans (Fr.trans (Fr.ext (Fr.ext (Fr.ext (Fr.trans (Fr.ext (Fr.refl (fun k => k = b1 ∨ k = b2 ∨ (fun kq => kq = b2) k) w1) Eb1) Es1 (fun k _ h => (.inl h))) E2) E3) Eb2) Es2 (fun k _ h => (.inr (.inl h)))) E4 (fun k _ h => (.inr (.inr h)))) E5 (fun k _ h => (.inr (.inr h)))) E6 (fun k _ h => (.inr (.inr h)))) E7) E8) (fun k hk h => by have h9 := hk.2; (try dsimp only at h); first | exact h.elim | omega)
 refine wk_mix3 11 (fun kS => match kS with | 1 => .val (.agg #[.int .u8 1, .int .i64 3]) | 2 => .val (.agg #[.int .u8 1, .int .i64 0]) | 3 => .any (fun I v w => ∃ b, v = .slice (some ⟨b, 0, none⟩) 2 2 ∧ Blk w b [.int .u8 1, .int .i64 3, .int .u8 1, .int .i64 0] 48) | 4 => .any (fun I v w => ∃ b, v = .agg #[.int .i64 1, .int .i64 1, .slice (some ⟨b, 0, none⟩) 2 2] ∧ Blk w b [.int .u8 1, .int .i64 3, .int .u8 1, .int .i64 0] 48) | 5 => .any (fun I v w => ∃ s c, v = .tuple #[.agg #[.slice s 1 c, .slice none 0 0], .int .i64 0] ∧ OwnS w 51 5 s 1 c ((tkL 1 (ltV (1, 3) (1, 0)) [(2, 0)]).flatMap tkC) ∧ ∀ k, ob s k → w12.heap.size ≤ k) | 9 => .any (fun I v w => v = .pointer (some ⟨I.1, 0, none⟩) ∧ w12.heap.size ≤ I.1 ∧ I.1 < I.2 ∧ Blk w I.1 [.slice none 0 0, .slice none 0 0] 59) | 10 => .sto 9 124 (fun J u w => J.1 < J.2 ∧ Blk w J.1 u.cells.toList 59) | _ => .none) (by kernel_rfl) (by kernel_rfl) (by intro kS G hk; (try dsimp only at hk); (split at hk) <;> first | (cases hk; done) | (injection hk with hk; subst hk; exact ⟨by intro j hkj I v w w' hR hG; first | exact hG | (obtain ⟨b, h1, h2⟩ := hG; exact ⟨b, h1, h2.ext hR⟩) | (obtain ⟨b, h1, h2⟩ := hG; exact ⟨b, h1, h2.ext hR⟩) | (obtain ⟨s, c, h1, h2, h3⟩ := hG; exact ⟨s, c, h1, h2.ext hR, h3⟩) | (obtain ⟨h1, h2, hI, h3⟩ := hG; exact ⟨h1, h2, hI, h3.ext hR⟩), fun _ I v w w' hR hT hG => by first | exact hG | (obtain ⟨b, h1, h2⟩ := hG; exact ⟨b, h1, Mix3.Ty.blk hT (by decide) h2⟩) | (obtain ⟨b, h1, h2⟩ := hG; exact ⟨b, h1, Mix3.Ty.blk hT (by decide) h2⟩) | (obtain ⟨s, c, h1, h2, h3⟩ := hG; exact ⟨s, c, h1, Mix3.Ty.own hT (by decide) h2, h3⟩) | (obtain ⟨h1, h2, hI, h3⟩ := hG; exact ⟨h1, h2, hI, h3.fr hR (fun h => h.2 ⟨Nat.le_refl _, hI⟩)⟩)⟩)) (by intro kS s y G hk; (try dsimp only at hk); (split at hk) <;> first | (cases hk; done) | (injection hk with hk1 hk2 hk3; subst hk1; subst hk2; subst hk3; exact ⟨by kernel_rfl, by intro j hkj I v w w' hR hG; exact ⟨hG.1, hG.2.ext hR⟩, fun I v w w' hR hT hG => ⟨hG.1, hG.2.fr hR (fun h => h.2 ⟨Nat.le_refl _, hG.1⟩)⟩⟩)) ?_
 simp only [List.take_succ_cons, List.take_zero, List.take_nil, List.drop_succ_cons, List.drop_zero, List.drop_nil]
 refine m3_calm rfl (want rfl) (fun u60 eu60 fu60 => rn_loadBlk ag_35 sz_35 rfl ((((((((((Bs1.ext E2).ext E3).ext Eb2).ne Es2 (by omega)).fr E4 (fun h => (fun h => absurd h (by omega)) h)).fr E5 (fun h => (fun h => absurd h (by omega)) h)).fr E6 (fun h => (fun h => absurd h (by omega)) h)).ext E7).ext E8).ext ((ext_drawn _).trans' eu60)) rfl rfl) ?_
 refine m3_val rfl (want rfl) (fun u61 eu61 fu61 => do_call (ent_func cf_14 (argsC (t_int rfl) args0)) (num_ct _ u61) (fun _ _ E h => ⟨E, h⟩)) ?_
 refine m3_val rfl (want rfl) (fun u62 eu62 fu62 => do_call (ent_func cf_14 (argsC (t_int rfl) args0)) (num_ct _ u62) (fun _ _ E h => ⟨E, h⟩)) ?_
 refine m3_any rfl rfl (want rfl) (fun u63 eu63 fu63 => (do_newS2 (rn_bslice (xs := [.tmp 119, .tmp 120]) Tryz.underlying53 sz_48 ze_48 rfl (argsC (t_agg rfl) (argsC (t_agg rfl) args0)) (CL.cons rfl rfl (CL.cons rfl rfl CL.nil)) rfl (Nat.le_of_ble_eq_true rfl)) (show _ ≤ _ from (((ext_drawn _).trans' eu63)).size)).mono (fun v w' h => ⟨h.1, (by obtain ⟨b, h2, _, _, h5⟩ := h.2; exact ⟨b, h2, h5⟩)⟩)) (fun I121 v121 => ?_)
 refine m3_any rfl rfl (want rfl) (fun u64 eu64 fu64 => by obtain ⟨b121, rfl, hB121⟩ := fu64 121 _ rfl (show (121 : Nat) ∈ _ from by decide); exact do_value (rn_build3 (t_int rfl) (t_int rfl) (t_slice rfl) (fun w => bd_55_0_1_2 _ _ _ _ _ w)) ⟨(Fr.refl no _), ⟨b121, rfl, hB121⟩⟩) (fun I122 v122 => ?_)
 refine m3_any rfl rfl (want rfl) (fun u65 eu65 fu65 => by obtain ⟨b122, rfl, hB122⟩ := fu65 122 _ rfl (show (122 : Nat) ∈ _ from by decide); exact do_call (ent_func cf_16 (argsC (t_agg rfl) (argsC (t_agg rfl) args0))) (executea_ct exS sa ca sb cb (fun k => w0.heap.size ≤ k ∧ k < w1.heap.size) exOk 1 expl1 1 (by decide) exn6 0 _ exca1 (1, 3) (1, 0) int3 int0 [(2, 0)] rfl (by decide) _ 2 (fun _ => True) exops1 rfl u65 (hSb13.ext ((ext_drawn _).trans' eu65)) (vl_blk2 (u := (1, 3)) (v := (1, 0)) hB122)) (fun v w' E h => ⟨E, (by obtain ⟨s, c, h1, h2, h3⟩ := h; exact ⟨s, c, h1, h2, fun k hk => Nat.le_trans (((ext_drawn _).trans' eu65)).size (h3 k hk)⟩)⟩)) (fun I123 v123 => ?_)
 refine m3_calm (v := .tuple #[.agg #[.slice (sOf (partAt (partAt v123 0) 0)) 1 (cOf (partAt (partAt v123 0) 0)), .slice none 0 0], .int .i64 0]) rfl (want rfl) (fun u66 eu66 fu66 => by obtain ⟨s123, c123, rfl, _⟩ := fu66 123 _ rfl (show (123 : Nat) ∈ _ from by decide); exact mv_tuple rfl) ?_
 refine m3_calm rfl (want rfl) (fun u67 eu67 fu67 => rn_extract rfl rfl) ?_
 refine m3_calm rfl (want rfl) (fun u68 eu68 fu68 => rn_extract rfl rfl) ?_
 refine m3_any rfl rfl (want rfl) (fun u69 eu69 fu69 => (do_new3 (rn_alloc ze_59) (show _ ≤ _ from (((ext_drawn _).trans' eu69)).size)).mono (fun v w' h => ⟨h.1, h.2⟩)) (fun I9 v9 => ?_)
 refine m3_sto rfl rfl rfl rfl (want rfl) (fun u70 eu70 fu70 _ => by obtain ⟨rfl, hl9, hi9, hB9⟩ := fu70 9 _ rfl (show (9 : Nat) ∈ _ from by decide); exact (do_sto3 sz_59 rfl rfl rfl rfl rfl hB9 rfl ⟨Nat.le_refl _, hi9⟩).mono (fun v w' h => ⟨h.1, h.2.1, h.2.2.1, hi9, h.2.2.2⟩)) ?_
 refine m3_nil (fun w13 E9' H5 HS => ?_)
 have E9 := (ext_drawn _).trans' E9'
 have F13 := F12.ext E9
 have hz9 := E9.size
 have hI9 := (HS.1 9 _ rfl).2
 have hI123 := (HS.1 123 _ rfl).2
 have hI122 := (HS.1 122 _ rfl).2
 have hI121 := (HS.1 121 _ rfl).2
 have hX9_123 := HS.2 9 _ 123 _ rfl rfl (show (9 : Nat) ≠ 123 from by decide)
 have hX9_122 := HS.2 9 _ 122 _ rfl rfl (show (9 : Nat) ≠ 122 from by decide)
 have hX9_121 := HS.2 9 _ 121 _ rfl rfl (show (9 : Nat) ≠ 121 from by decide)
 have hX123_122 := HS.2 123 _ 122 _ rfl rfl (show (123 : Nat) ≠ 122 from by decide)
 have hX123_121 := HS.2 123 _ 121 _ rfl rfl (show (123 : Nat) ≠ 121 from by decide)
 have hX122_121 := HS.2 122 _ 121 _ rfl rfl (show (122 : Nat) ≠ 121 from by decide)
 simp only at hI9
 simp only at hI123
 simp only at hI122
 simp only at hI121
 simp only at hX9_123
 simp only at hX9_122
 simp only at hX9_121
 simp only at hX123_122
 simp only at hX123_121
 simp only at hX122_121
 have g9 := H5 9 _ rfl
 obtain ⟨⟨_, hv9, hb9, _, _⟩, hi9, hB9⟩ := g9; subst hv9; have hlb9 := hB9.lt
 have g123 := H5 123 _ rfl
 obtain ⟨s123, c123, rfl, hO123, hg123⟩ := g123
 have g122 := H5 122 _ rfl
 have g121 := H5 121 _ rfl
 refine lx_value (want rfl) (as_int rfl) ?_
 refine lx_nil ?_
 refine wk_seq ?_
 refine wk_region ?_
 refine lx_value (want rfl) (rn_loadBlk ag_35 sz_35 rfl ((((((((((Bs1.ext E2).ext E3).ext Eb2).ne Es2 (by omega)).fr E4 (fun h => (fun h => absurd h (by omega)) h)).fr E5 (fun h => (fun h => absurd h (by omega)) h)).fr E6 (fun h => (fun h => absurd h (by omega)) h)).ext E7).ext E8).ext E9) rfl rfl) ?_
 refine lx_value (want rfl) (rn_build1 (t_int rfl) (fun w => bd_48_0 _ w)) ?_
 refine lx_newS (want rfl) (rn_bslice (xs := [.tmp 128]) Tryz.underlying53 sz_48 ze_48 rfl (argsC (t_agg rfl) args0) (CL.cons rfl rfl CL.nil) rfl (Nat.le_of_ble_eq_true rfl)) ?_
 intro b3 w14 hb3 Eb3 B3 hlb3
 have F14 := F13.ext Eb3
 have hzb3 := Eb3.size
 refine lx_value (want rfl) (rn_build2 (t_int rfl) (t_slice rfl) (fun w => bd_55_1_2 _ _ _ _ w)) ?_
 refine lx_call (want rfl) (ent_func cf_16 (argsC (t_agg rfl) (argsC (t_agg rfl) args0))) (executeb_ct exS sa ca sb cb (fun k => w0.heap.size ≤ k ∧ k < w1.heap.size) exOk 6 expl6 0 (by decide) exn66 ⟨#[]⟩ 0 _ exca6 (3, 0) (by decide) _ 1 (fun _ => True) exops6 rfl w14 (hSR.fr (Fr.ext (Fr.ext (Fr.ext (Fr.ext (Fr.trans (Fr.trans (Fr.trans (Fr.trans (Fr.ext (Fr.ext (Fr.ext (Fr.trans (Fr.ext (Fr.refl (fun k => k = b1 ∨ k = b2 ∨ (fun kq => kq = b2) k) w1) Eb1) Es1 (fun k _ h => (.inl h))) E2) E3) Eb2) Es2 (fun k _ h => (.inr (.inl h)))) E4 (fun k _ h => (.inr (.inr h)))) E5 (fun k _ h => (.inr (.inr h)))) E6 (fun k _ h => (.inr (.inr h)))) E7) E8) E9) Eb3) (fun k hk h => by have h9 := hk.2; (try dsimp only at h); first | exact h.elim | omega)) (vl_blk1 (u := (3, 0)) B3)) ?_
 rintro _ w15 E10 ⟨bK6, cs6, rfl, hBK6, hbK6⟩
 have F15 := F14.ext E10
 have hz10 := E10.size
 refine lx_value (want rfl) (mv_tuple rfl) ?_
 refine lx_value (want rfl) (rn_extract rfl rfl) ?_
 refine lx_value (want rfl) (rn_extract rfl rfl) ?_
 refine lx_new (want rfl) (rn_alloc ze_59) ?_
 intro b4 w16 hb4 Eb4 B4 hlb4
 have F16 := F15.ext Eb4
 have hzb4 := Eb4.size
 refine lx_set (want rfl) sz_59 rfl (t_agg rfl) rfl rfl rfl B4 (Nat.le_of_ble_eq_true rfl) ?_
 intro w17 Es3 Bs3
 have F17 := F16.set Es3 (by omega)
 have hzs3 := Es3.size
 refine lx_value (want rfl) (as_int rfl) ?_
 refine lx_nil ?_
 refine wk_seq ?_
 have hSb15 := hSR.fr (Fr.trans (Fr.ext (Fr.ext (Fr.ext (Fr.ext (Fr.ext (Fr.ext (Fr.trans (Fr.trans (Fr.trans (Fr.trans (Fr.ext (Fr.ext (Fr.ext (Fr.trans (Fr.ext (Fr.refl (fun k => k = b1 ∨ k = b2 ∨ (fun kq => kq = b2) k ∨ k = b4) w1) Eb1) Es1 (fun k _ h => (.inl h))) E2) E3) Eb2) Es2 (fun k _ h => (.inr (.inl h)))) E4 (fun k _ h => (.inr (.inr (.inl h))))) E5 (fun k _ h => (.inr (.inr (.inl h))))) E6 (fun k _ h => (.inr (.inr (.inl h))))) E7) E8) E9) Eb3) E10) Eb4) Es3 (fun k _ h => (.inr (.inr (.inr h))))) (fun k hk h => by have h9 := hk.2; (try dsimp only at h); first | exact h.elim | omega)
 refine wk_mix 8 (fun kS => match kS with | 2 => .val (.agg #[.int .u8 1, .int .i64 9]) | 3 => .any (fun I v w => ∃ s c, v = .tuple #[.slice s 2 c, .int .i64 0] ∧ TkS (fun k => w17.heap.size ≤ k) w s (tkL 5 (1, 9) [(1, 0), (2, 1)])) | _ => .none) (by kernel_rfl) (by kernel_rfl) (by intro kS G hk; (try dsimp only at hk); (split at hk) <;> first | (cases hk; done) | (injection hk with hk; subst hk; exact ⟨by intro j hkj I v w w' hR hG; first | exact hG | (obtain ⟨s, c, h1, h2⟩ := hG; exact ⟨s, c, h1, h2.ext (tk_stab _) hR⟩), fun ⟨_, _, _, _, hs⟩ => by (try dsimp only at hs); split at hs <;> cases hs⟩)) (by intro kS s y G hk; (try dsimp only at hk); split at hk <;> cases hk) ?_
 simp only [List.take_succ_cons, List.take_zero, List.take_nil, List.drop_succ_cons, List.drop_zero, List.drop_nil]
 refine mx_calm rfl (want rfl) (fun u71 eu71 fu71 => rn_loadBlk ag_35 sz_35 rfl (((((((((((((((Bs1.ext E2).ext E3).ext Eb2).ne Es2 (by omega)).fr E4 (fun h => (fun h => absurd h (by omega)) h)).fr E5 (fun h => (fun h => absurd h (by omega)) h)).fr E6 (fun h => (fun h => absurd h (by omega)) h)).ext E7).ext E8).ext E9).ext Eb3).ext E10).ext Eb4).ne Es3 (by omega)).ext ((ext_drawn _).trans' eu71)) rfl rfl) ?_
 refine mx_calm rfl (want rfl) (fun u72 eu72 fu72 => rn_build2 (t_int rfl) (t_int rfl) (fun w => bd_23_0_1 _ _ w)) ?_
 refine mx_val rfl (want rfl) (fun u73 eu73 fu73 => do_call (ent_func cf_14 (argsC (t_int rfl) args0)) (num_ct _ u73) (fun _ _ E h => ⟨E, h⟩)) ?_
 refine mx_any rfl rfl (want rfl) (fun u74 eu74 fu74 => do_call (ent_func cf_17 (argsC (t_agg rfl) (argsC (t_agg rfl) (argsC (t_agg rfl) args0)))) (start_ct exS sa ca sb cb (fun k => w0.heap.size ≤ k ∧ k < w1.heap.size) exOk 5 (1, 9) _ [(1, 0), (2, 1)] rfl rfl (by decide) (by decide) exsent u74 (hSb15.ext ((ext_drawn _).trans' eu74))) (fun v w' E h => ⟨E, (by obtain ⟨s, c, h1, h2⟩ := h; exact ⟨s, c, h1, h2.wide (fun k hk => Nat.le_trans (((ext_drawn _).trans' eu74)).size hk)⟩)⟩)) (fun I138 v138 => ?_)
 refine mx_calm (v := .tuple #[.slice (sOf (partAt v138 0)) 2 (cOf (partAt v138 0)), .int .i64 0]) rfl (want rfl) (fun u75 eu75 fu75 => by obtain ⟨s138, c138, rfl, _⟩ := fu75 138 _ rfl (show (138 : Nat) ∈ _ from by decide); exact mv_tuple rfl) ?_
 refine mx_calm rfl (want rfl) (fun u76 eu76 fu76 => rn_extract rfl rfl) ?_
 refine mx_calm rfl (want rfl) (fun u77 eu77 fu77 => rn_extract rfl rfl) ?_
 refine mx_calm rfl (want rfl) (fun u78 eu78 fu78 => as_slice rfl) ?_
 refine mx_nil (fun w18 E11' H6 HS => ?_)
 have E11 := (ext_drawn _).trans' E11'
 have F18 := F17.ext E11
 have hz11 := E11.size
 have hI138 := (HS.1 138 _ rfl).2
 simp only at hI138
 have g138 := H6 138 _ rfl
 obtain ⟨s138, c138, rfl, hT138⟩ := g138
 refine lx_value (want rfl) (as_int rfl) ?_
 refine lx_nil ?_
 refine wk_seq ?_
 refine wk_region ?_
 refine lx_value (want rfl) (rn_build2 (t_int rfl) (t_int rfl) (fun w => bd_23_0_1 _ _ w)) ?_
 refine lx_call (want rfl) (ent_func cf_4 (argsC (t_agg rfl) (argsC (t_int rfl) args0))) ((by have h := home_ct 3 4 8 w18; rw [hv348] at h; exact h)) ?_
 rintro _ w19 E12 rfl
 have F19 := F18.ext E12
 have hz12 := E12.size
 refine lx_value (want rfl) (mv_tuple rfl) ?_
 refine lx_value (want rfl) (rn_extract rfl rfl) ?_
 refine lx_value (want rfl) (rn_extract rfl rfl) ?_
 refine lx_value (want rfl) (as_int rfl) ?_
 refine lx_value (want rfl) (as_int rfl) ?_
 refine lx_nil ?_
 refine wk_seq ?_
 refine wk_seq ?_
 refine wk_region ?_
 refine lx_value (want rfl) (mv_int rfl) ?_
 refine lx_value (want rfl) (rn_neq rfl rfl) ?_
 refine lx_dec_f ((fun g => g rfl)) ?_
 refine lx_value (want rfl) (mv_bool rfl) ?_
 refine lx_value (want_if (j := 2) (d := 148) (x := false) (y := false) rfl rfl (by decide) rfl) (mv_int rfl) ?_
 refine lx_value (want_if (j := 2) (d := 148) (x := false) (y := false) rfl rfl (by decide) rfl) (rn_neq rfl rfl) ?_
 refine lx_dec_f ((fun g => g rfl)) ?_
 refine lx_value (want rfl) (pick_f rfl rfl) ?_
 refine lx_value (want rfl) (mv_bool rfl) ?_
 refine lx_value (want_if (j := 6) (d := 152) (x := false) (y := false) rfl rfl (by decide) rfl) (mv_int rfl) ?_
 refine lx_value (want_if (j := 6) (d := 152) (x := false) (y := false) rfl rfl (by decide) rfl) (rn_neq rfl rfl) ?_
 refine lx_dec_f ((fun g => g rfl)) ?_
 refine lx_value (want rfl) (pick_f rfl rfl) ?_
 refine lx_value (want rfl) (mv_bool rfl) ?_
 refine lx_value (want_if (j := 10) (d := 156) (x := false) (y := false) rfl rfl (by decide) rfl) (mv_int rfl) ?_
 refine lx_value (want_if (j := 10) (d := 156) (x := false) (y := false) rfl rfl (by decide) rfl) (rn_neq rfl rfl) ?_
 refine lx_dec_f ((fun g => g rfl)) ?_
 refine lx_value (want rfl) (pick_f rfl rfl) ?_
 refine lx_value (want rfl) (mv_bool rfl) ?_
 refine lx_value (want_if (j := 14) (d := 160) (x := false) (y := false) rfl rfl (by decide) rfl) (mv_int rfl) ?_
 refine lx_value (want_if (j := 14) (d := 160) (x := false) (y := false) rfl rfl (by decide) rfl) (rn_neq rfl rfl) ?_
 refine lx_dec_f ((fun g => g rfl)) ?_
 refine lx_value (want rfl) (pick_f rfl rfl) ?_
 refine lx_nil ?_
 refine wk_cond_f rfl ?_
 refine wk_skip ?_
 refine wk_seq ?_
 have hOd := hO123.fr (Fr.ext (Fr.ext (Fr.trans (Fr.ext (Fr.ext (Fr.ext (Fr.refl (fun k => k = b4) w13) Eb3) E10) Eb4) Es3 (fun k _ h => h)) E11) E12) (fun k hk h => by have h9 := hO123.lt hk; (try dsimp only at h); first | exact h.elim | omega)
 have hTd : TkS (fun _ => True) w19 s123 (tkL 1 (ltV (1, 3) (1, 0)) [(2, 0)]) := hOd.sl (by decide) rfl (fun _ _ => rfl) (fun _ _ => trivial)
 have hBKb := hBK6.fr (Fr.ext (Fr.ext (Fr.trans (Fr.ext (Fr.refl (fun k => k = b4) w15) Eb4) Es3 (fun k _ h => h)) E11) E12) (fun h => by have h9 := hBK6.lt; (try dsimp only at h); first | exact h.elim | omega)
 have hT5b := hT138.fr (tk_stab _) (Fr.ext (Fr.refl no w18) E12) (fun k hk h => by (try dsimp only at hk h); first | exact h.elim | omega)
 refine wk_mix 39 (fun kS => match kS with | 2 => .val (.agg #[.int .u8 2, .int .i64 0]) | 4 => .any (fun I v w => ∃ s, v = .slice s 1 1 ∧ TkS (fun _ => True) w s (tkL 1 (ltV (1, 3) (1, 0)) [(2, 0)])) | 5 => .val (.bool true) | 34 => .val (.agg #[.int .u8 1, .int .i64 9]) | 36 => .val (.agg #[.int .u8 1, .int .i64 9]) | 38 => .any (fun I v w => ∃ s, v = .slice s 2 2 ∧ TkS (fun _ => True) w s (tkL 5 (1, 9) [(1, 0), (2, 1)])) | _ => .none) (by kernel_rfl) (by kernel_rfl) (by intro kS G hk; (try dsimp only at hk); (split at hk) <;> first | (cases hk; done) | (injection hk with hk; subst hk; exact ⟨by intro j hkj I v w w' hR hG; first | exact hG | (obtain ⟨s, h1, h2⟩ := hG; exact ⟨s, h1, h2.ext (tk_stab _) hR⟩) | (obtain ⟨s, h1, h2⟩ := hG; exact ⟨s, h1, h2.ext (tk_stab _) hR⟩), fun ⟨_, _, _, _, hs⟩ => by (try dsimp only at hs); split at hs <;> cases hs⟩)) (by intro kS s y G hk; (try dsimp only at hk); split at hk <;> cases hk) ?_
 simp only [List.take_succ_cons, List.take_zero, List.take_nil, List.drop_succ_cons, List.drop_zero, List.drop_nil]
 refine mx_calm rfl (want rfl) (fun u79 eu79 fu79 => rn_fieldAddr fa_59_0 rfl) ?_
 refine mx_calm rfl (want rfl) (fun u80 eu80 fu80 => rn_load1Blk ag_56 rfl (((((((hB9.ext Eb3).ext E10).ext Eb4).ne Es3 (by omega)).ext E11).ext E12).ext ((ext_drawn _).trans' eu80)) rfl) ?_
 refine mx_val rfl (want rfl) (fun u81 eu81 fu81 => do_call (ent_func cf_19 (argsC (t_bool rfl) args0)) (rtruth_ct u81) (fun _ _ E h => ⟨E, h⟩)) ?_
 refine mx_calm rfl (want rfl) (fun u82 eu82 fu82 => rn_build3 (t_int rfl) (t_int rfl) (t_agg rfl) (fun w => bd_51_0_1_3 _ _ _ _ w)) ?_
 refine mx_any rfl rfl (want rfl) (fun u83 eu83 fu83 => (do_newS2 (rn_bslice (xs := [.tmp 167]) Tryz.underlying56 sz_51 ze_51 rfl (argsC (t_agg rfl) args0) (CL.cons rfl rfl CL.nil) rfl (Nat.le_of_ble_eq_true rfl)) (show _ ≤ _ from (((ext_drawn _).trans' eu83)).size)).mono (fun v w' h => ⟨h.1, (by obtain ⟨b, h2, _, _, h5⟩ := h.2; exact ⟨_, h2, tk_blk1 h5⟩)⟩)) (fun I168 v168 => ?_)
 refine mx_val rfl (want rfl) (fun u84 eu84 fu84 => by obtain ⟨s168, rfl, hT168⟩ := fu84 168 _ rfl (show (168 : Nat) ∈ _ from by decide); exact do_call (ent_func cf_18 (argsC (t_slice rfl) (argsC (t_slice rfl) args0))) (rtokens_ct (tkL 1 (ltV (1, 3) (1, 0)) [(2, 0)]) _ _ _ _ _ _ (Nat.le_of_ble_eq_true rfl) u84 (hTd.ext (tk_stab _) ((ext_drawn _).trans' eu84)) hT168) (fun _ _ E h => ⟨E, h⟩)) ?_
 refine mx_b_t (rfl) ?_
 refine mx_calm rfl (want rfl) (fun u85 eu85 fu85 => mv_bool rfl) ?_
 refine mx_calm rfl (want_if (j := 6) (d := 170) (x := true) (y := true) rfl rfl (by decide) rfl) (fun u86 eu86 fu86 => rn_fieldAddr fa_59_1 rfl) ?_
 refine mx_calm rfl (want_if (j := 6) (d := 170) (x := true) (y := true) rfl rfl (by decide) rfl) (fun u87 eu87 fu87 => rn_load1Blk ag_57 rfl (((((((hB9.ext Eb3).ext E10).ext Eb4).ne Es3 (by omega)).ext E11).ext E12).ext ((ext_drawn _).trans' eu87)) rfl) ?_
 refine mx_calm rfl (want_if (j := 6) (d := 170) (x := true) (y := true) rfl rfl (by decide) rfl) (fun u88 eu88 fu88 => rn_len Tryz.underlying57 rfl) ?_
 refine mx_calm rfl (want_if (j := 6) (d := 170) (x := true) (y := true) rfl rfl (by decide) rfl) (fun u89 eu89 fu89 => rn_eql rfl rfl) ?_
 refine mx_dec_t (rfl) ?_
 refine mx_calm rfl (want rfl) (fun u90 eu90 fu90 => pick_t rfl rfl) ?_
 refine mx_calm rfl (want rfl) (fun u91 eu91 fu91 => mv_bool rfl) ?_
 refine mx_calm rfl (want_if (j := 12) (d := 176) (x := true) (y := true) rfl rfl (by decide) rfl) (fun u92 eu92 fu92 => rn_fieldAddr fa_59_0 rfl) ?_
 refine mx_calm rfl (want_if (j := 12) (d := 176) (x := true) (y := true) rfl rfl (by decide) rfl) (fun u93 eu93 fu93 => rn_load1Blk ag_56 rfl (((Bs3.ext E11).ext E12).ext ((ext_drawn _).trans' eu93)) rfl) ?_
 refine mx_calm rfl (want_if (j := 12) (d := 176) (x := true) (y := true) rfl rfl (by decide) rfl) (fun u94 eu94 fu94 => rn_len Tryz.underlying56 rfl) ?_
 refine mx_calm rfl (want_if (j := 12) (d := 176) (x := true) (y := true) rfl rfl (by decide) rfl) (fun u95 eu95 fu95 => rn_eql rfl rfl) ?_
 refine mx_dec_t (rfl) ?_
 refine mx_calm rfl (want rfl) (fun u96 eu96 fu96 => pick_t rfl rfl) ?_
 refine mx_calm rfl (want rfl) (fun u97 eu97 fu97 => mv_bool rfl) ?_
 refine mx_calm rfl (want_if (j := 18) (d := 182) (x := true) (y := true) rfl rfl (by decide) rfl) (fun u98 eu98 fu98 => rn_fieldAddr fa_59_1 rfl) ?_
 refine mx_calm rfl (want_if (j := 18) (d := 182) (x := true) (y := true) rfl rfl (by decide) rfl) (fun u99 eu99 fu99 => rn_load1Blk ag_57 rfl (((Bs3.ext E11).ext E12).ext ((ext_drawn _).trans' eu99)) rfl) ?_
 refine mx_calm rfl (want_if (j := 18) (d := 182) (x := true) (y := true) rfl rfl (by decide) rfl) (fun u100 eu100 fu100 => rn_len Tryz.underlying57 rfl) ?_
 refine mx_calm rfl (want_if (j := 18) (d := 182) (x := true) (y := true) rfl rfl (by decide) rfl) (fun u101 eu101 fu101 => rn_eql rfl rfl) ?_
 refine mx_dec_t (rfl) ?_
 refine mx_calm rfl (want rfl) (fun u102 eu102 fu102 => pick_t rfl rfl) ?_
 refine mx_calm rfl (want rfl) (fun u103 eu103 fu103 => mv_bool rfl) ?_
 refine mx_calm rfl (want_if (j := 24) (d := 188) (x := true) (y := true) rfl rfl (by decide) rfl) (fun u104 eu104 fu104 => rn_fieldAddr fa_59_1 rfl) ?_
 refine mx_calm rfl (want_if (j := 24) (d := 188) (x := true) (y := true) rfl rfl (by decide) rfl) (fun u105 eu105 fu105 => rn_load1Blk ag_57 rfl (((Bs3.ext E11).ext E12).ext ((ext_drawn _).trans' eu105)) rfl) ?_
 refine mx_calm rfl (want_if (j := 24) (d := 188) (x := true) (y := true) rfl rfl (by decide) rfl) (fun u106 eu106 fu106 => rn_index 0 Tryz.underlying57 sz_67 rfl rfl rfl (by decide)) ?_
 refine mx_calm rfl (want_if (j := 24) (d := 188) (x := true) (y := true) rfl rfl (by decide) rfl) (fun u107 eu107 fu107 => rn_fieldAddr fa_67_0 rfl) ?_
 refine mx_calm rfl (want_if (j := 24) (d := 188) (x := true) (y := true) rfl rfl (by decide) rfl) (fun u108 eu108 fu108 => rn_load1 ag_5 rfl ((hBKb.ext ((ext_drawn _).trans' eu108)).cell 0 rfl)) ?_
 refine mx_calm rfl (want_if (j := 24) (d := 188) (x := true) (y := true) rfl rfl (by decide) rfl) (fun u109 eu109 fu109 => rn_eql rfl rfl) ?_
 refine mx_dec_t (rfl) ?_
 refine mx_calm rfl (want rfl) (fun u110 eu110 fu110 => pick_t rfl rfl) ?_
 refine mx_calm rfl (want rfl) (fun u111 eu111 fu111 => mv_bool rfl) ?_
 refine mx_calm rfl (want_if (j := 32) (d := 196) (x := true) (y := true) rfl rfl (by decide) rfl) (fun u112 eu112 fu112 => mv_slice rfl) ?_
 refine mx_val rfl (want_if (j := 32) (d := 196) (x := true) (y := true) rfl rfl (by decide) rfl) (fun u113 eu113 fu113 => do_call (ent_func cf_14 (argsC (t_int rfl) args0)) (num_ct _ u113) (fun _ _ E h => ⟨E, h⟩)) ?_
 refine mx_calm rfl (want_if (j := 32) (d := 196) (x := true) (y := true) rfl rfl (by decide) rfl) (fun u114 eu114 fu114 => rn_build3 (t_int rfl) (t_int rfl) (t_agg rfl) (fun w => bd_51_0_1_3 _ _ _ _ w)) ?_
 refine mx_val rfl (want_if (j := 32) (d := 196) (x := true) (y := true) rfl rfl (by decide) rfl) (fun u115 eu115 fu115 => do_call (ent_func cf_14 (argsC (t_int rfl) args0)) (num_ct _ u115) (fun _ _ E h => ⟨E, h⟩)) ?_
 refine mx_calm rfl (want_if (j := 32) (d := 196) (x := true) (y := true) rfl rfl (by decide) rfl) (fun u116 eu116 fu116 => rn_build4 (t_int rfl) (t_int rfl) (t_int rfl) (t_agg rfl) (fun w => bd_51_0_1_2_3 _ _ _ _ _ w)) ?_
 refine mx_any rfl rfl (want_if (j := 32) (d := 196) (x := true) (y := true) rfl rfl (by decide) rfl) (fun u117 eu117 fu117 => (do_newS2 (rn_bslice (xs := [.tmp 199, .tmp 201]) Tryz.underlying56 sz_51 ze_51 rfl (argsC (t_agg rfl) (argsC (t_agg rfl) args0)) (CL.cons rfl rfl (CL.cons rfl rfl CL.nil)) rfl (Nat.le_of_ble_eq_true rfl)) (show _ ≤ _ from (((ext_drawn _).trans' eu117)).size)).mono (fun v w' h => ⟨h.1, (by obtain ⟨b, h2, _, _, h5⟩ := h.2; exact ⟨_, h2, tk_blk2 h5⟩)⟩)) (fun I202 v202 => ?_)
 refine mx_nil (fun w20 E13' H7 HS => ?_)
 have E13 := (ext_drawn _).trans' E13'
 have F20 := F19.ext E13
 have hz13 := E13.size
 have hI202 := (HS.1 202 _ rfl).2
 have hI168 := (HS.1 168 _ rfl).2
 have hX202_168 := HS.2 202 _ 168 _ rfl rfl (show (202 : Nat) ≠ 168 from by decide)
 simp only at hI202
 simp only at hI168
 simp only at hX202_168
 have g202 := H7 202 _ rfl
 obtain ⟨s202, rfl, hT202⟩ := g202
 have g168 := H7 168 _ rfl
 refine lx_call (want_if (j := 32) (d := 196) (x := true) (y := true) rfl rfl (by decide) rfl) (ent_func cf_18 (argsC (t_slice rfl) (argsC (t_slice rfl) args0))) (rtokens_ct (tkL 5 (1, 9) [(1, 0), (2, 1)]) _ _ _ _ _ _ (Nat.le_of_ble_eq_true rfl) w20 (hT5b.fr (tk_stab _) (Fr.ext (Fr.refl no w19) E13) (fun k hk h => by have h9 : _ ≤ k := hk; (try dsimp only at h); first | exact h.elim | omega)) hT202) ?_
 rintro _ w21 E14 rfl
 have F21 := F20.ext E14
 have hz14 := E14.size
 refine lx_value (want rfl) (pick_t rfl rfl) ?_
 refine lx_value (want rfl) (as_bool rfl) ?_
 refine lx_nil ?_
 refine wk_ret ?_
 refine retR1 Tryz.results6 (.tmp (t_bool rfl)) F21 ?_
 exact rfl

end Go.Proofs.YtgnnegfnpgnbbaaGreatDoor

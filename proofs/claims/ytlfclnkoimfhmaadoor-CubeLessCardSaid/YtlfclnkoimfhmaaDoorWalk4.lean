/- What functions of the cube compute: cleft, walk, target, next, within. -/
import Derived.Test.YtlfclnkoimfhmaaDoorFacts
import Derived.Test.YtlfclnkoimfhmaaDoorPre
import Derived.Test.YtlfclnkoimfhmaaDoorWalk1
import Derived.Test.YtlfclnkoimfhmaaDoorWalk2
import Derived.Test.YtlfclnkoimfhmaaDoorWalk3
set_option linter.unusedVariables false
set_option linter.unusedSimpArgs false
namespace Go.Proofs.YtlfclnkoimfhmaaDoor
open Go Go.RowKit Go.Mix Go.Eng
set_option maxHeartbeats 1000000 in
theorem cleft_ct (b dim : Nat) (r : Int) (s : Option Addr) (c : Nat) (T : List (TE Pk)) (L : List (List Pk)) (hm : T.map (·.2.2) = L) (hV : Valid dim r L) (w0 : World) (hC : CubeP w0 b dim r s c T) (hT : Tb w0 1) :
    CT Tryd.prog 52 [.pointer (some ⟨b, 0, none⟩)] w0 no (fun v _ => v = .int .i64 (leftN dim L L.length : Nat)) := by
  have hd := hV.hd
  have h28 := pow2_le dim (Nat.le_refl _) hd
  have hbl := hC.blk.lt
  have hT1 := hT.lt
  have hTn : T.length = L.length := by rw [← hm, List.length_map]
  have hnL := hV.len
  have h32 := prod_le hd
  have F0 := Fr.refl no w0
  refine ct_bodyM Tryd.func52 rfl Tryd.ntmps52 (Nat.le_of_ble_eq_true rfl) ?_
  refine wk_seq ?_
  refine wk_region ?_
  refine lx_new (want rfl) (rn_box (t_pointer rfl)) ?_
  intro b21 w1 hb21 Eb21 B21 hlb21
  have F1 := F0.ext Eb21
  have hzb21 := Eb21.size
  refine lx_new (want rfl) (rn_alloc ze_3) ?_
  intro b22 w2 hb22 Eb22 B22 hlb22
  have F2 := F1.ext Eb22
  have hzb22 := Eb22.size
  refine lx_nil ?_
  refine wk_seq ?_
  refine wk_seq ?_
  refine wk_region ?_
  refine lx_value (want rfl) (rn_load1Blk ag_84 rfl (B21.ext Eb22) rfl) ?_
  refine lx_value (want rfl) (rn_nilCheck rfl) ?_
  refine lx_value (want rfl) (rn_loadBlk ag_76 sz_76 rfl ((hC.blk.ext Eb21).ext Eb22) rfl rfl) ?_
  refine lx_call (want rfl) (ent_func cf_80 (argsC (t_agg rfl) args0)) (spots_ct dim r _ _ _ w2) ?_
  rintro _ w3 E1 ⟨bs, rfl, BS, hbs⟩
  have F3 := F2.ext E1
  have hz1 := E1.size
  have hlbs := (BS).lt
  refine lx_nil ?_
  refine wk_block ?_
  refine wk_abs ?_
  intro ρR1 hR1
  refine wk_range (ps := [11, 12]) ((hR1 10).trans rfl) cf_90 ?_
  intro fR1 db1 l1 w4 RC1 hRC1 hdb1 hl1 hsz1 ER1 HD1 HL1
  have F4 := F3.ext ER1
  have hzR1 := ER1.size
  have hlt1_l := (HL1).lt
  have hlt1_d := (HD1).lt
  refine CT.mono (spots1_ct l1 bs T.length dim r _ _ hd (by omega) (fun (i : Nat) (w : World) => Fr no w0 w ∧ w4.heap.size ≤ w.heap.size ∧ Blk w b (cellsOf hC.blk) 76 ∧ Tb w 1 ∧ Blk w b21 (cellsOf B21) 84 ∧ Blk w b22 [.int .i64 (leftN dim L i : Nat)] 3 ∧ Blk w bs (cellsOf BS) 76 ∧ At w l1 (RC1 .ready none) ∧ At w db1 (.deferred (some []))) (fun _ => False) w4 ⟨F4, (by omega), ((((hC.blk.ext Eb21).ext Eb22).ext E1).ext ER1), ((((hT.ext Eb21).ext Eb22).ext E1).ext ER1), (((B21.ext Eb22).ext E1).ext ER1), (by first | exact ((B22.ext E1).ext ER1) | (rw [← leftN_snd hl hlk]; exact ((B22.ext E1).ext ER1))), (BS.ext ER1), HL1, HD1⟩ (by rintro i w ⟨FW1, hzW1, BL1_1, BL1_800, BL1_21, BL1_22, BL1_40, BL1_901, BL1_902⟩; exact BL1_40) (by rintro i w ⟨FW1, hzW1, BL1_1, BL1_800, BL1_21, BL1_22, BL1_40, BL1_901, BL1_902⟩; exact (Fr.between F4 FW1 hzW1).mono (fun _ _ _ => trivial)) (by intro w h; exact h.elim) ?_) (fun _ _ h => h) ?_
  ·
    rintro i w5 w6 hi1 ⟨FW1, hzW1, BL1_1, BL1_800, BL1_21, BL1_22, BL1_40, BL1_901, BL1_902⟩ E1r
    have F5 := FW1.ext E1r
    have hz1r := E1r.size
    refine yd_round hRC1 (BL1_901.ext E1r) rfl ?_
    refine wk_seq ?_
    refine wk_region ?_
    refine lx_value (want rfl) (as_int rfl) ?_
    refine lx_nil ?_
    refine wk_region ?_
    refine lx_new (want rfl) (rn_alloc ze_82) ?_
    intro b23 w7 hb23 Eb23 B23 hlb23
    have F6 := F5.ext Eb23
    have hzb23 := Eb23.size
    refine lx_set (want rfl) sz_82 rfl rfl rfl rfl rfl B23 (Nat.le_of_ble_eq_true rfl) ?_
    intro w8 Es1 Bs1
    have F7 := F6.set Es1 (by omega)
    have hzs1 := Es1.size
    refine lx_nil ?_
    refine ⟨rfl, (((BL1_901.ext E1r).ext Eb23).ne Es1 (by omega)), fun w9 E2 HBE2 => ?_⟩
    have F8 := F7.set E2 (by omega)
    have hz2 := E2.size
    obtain ⟨l, hl⟩ : ∃ l, L[i]? = some l := ⟨_, List.getElem?_eq_getElem (by omega)⟩
    obtain ⟨⟨sE, cE, l2⟩, he, hel⟩ := tab_at hm hl
    dsimp only at hel
    subst hel
    obtain ⟨bT, oT, hs, hcT⟩ := hC.tab.get he
    dsimp only at hcT
    subst hs
    have hpx : PkS (fun _ => True) w0 sE l := (hC.tab.own _ _ he).sl (by decide) rfl (fun _ _ => rfl) (fun _ _ => trivial)
    obtain ⟨hx0, hx1, hx2, hx3⟩ := hV.at hl
    have hl8 := hV.le8 hl
    have hle := leftN_le (dim := dim) (fun n l h => hV.le8 h) (show i ≤ L.length by omega)
    refine wk_block ?_
    refine wk_seq ?_
    refine wk_region ?_
    refine lx_value (want rfl) (rn_load1Blk ag_84 ((hR1 1).trans rfl) ((((BL1_21.ext E1r).ext Eb23).ne Es1 (by omega)).ne E2 (by omega)) rfl) ?_
    refine lx_value (want rfl) (rn_nilCheck rfl) ?_
    refine lx_value (want rfl) (rn_fieldAddr fa_76_0 rfl) ?_
    refine lx_value (want rfl) (rn_fieldAddr fa_24_2 rfl) ?_
    refine lx_value (want rfl) (rn_load1Blk ag_22 rfl ((((BL1_1.ext E1r).ext Eb23).ne Es1 (by omega)).ne E2 (by omega)) rfl) ?_
    refine lx_value (want rfl) (mv_int rfl) ?_
    refine lx_value (want rfl) (rn_index i Tryd.underlying22 sz_49 rfl rfl rfl (List.getElem?_eq_some_iff.1 he).1) ?_
    refine lx_value (want rfl) (rn_load1 ag_49 rfl (F8.cell (fun h => h) hcT)) ?_
    refine lx_value (want rfl) (rn_len Tryd.underlying49 rfl) ?_
    refine lx_value (want rfl) (mv_int rfl) ?_
    refine lx_nil ?_
    refine wk_block ?_
    refine wk_loopA [6, 22, 23, 24, 25, 26, 27, 28, 29, 30, 31, 32, 33, 34, 35, 36] (fun j => no j ∨ w0.heap.size ≤ j) (fun nM ρ w => ∃ (k : Nat), nM = l.length - k ∧ ρ 22 = .int .i64 k ∧ Blk w b (cellsOf BL1_1) 76 ∧ Tb w 1 ∧ Blk w b21 (cellsOf BL1_21) 84 ∧ Blk w b22 [.int .i64 (leftN dim L i + leftB dim i (l.take k) : Nat)] 3 ∧ Blk w bs (cellsOf BL1_40) 76 ∧ At w l1 (RC1 .busy none) ∧ At w db1 (.deferred (some [])) ∧ Blk w b23 (cellsOf Bs1) 82 ∧ (k ≤ l.length)) _ ⟨0, rfl, rfl, ((((BL1_1.ext E1r).ext Eb23).ne Es1 (by omega)).ne E2 (by omega)), ((((BL1_800.ext E1r).ext Eb23).ne Es1 (by omega)).ne E2 (by omega)), ((((BL1_21.ext E1r).ext Eb23).ne Es1 (by omega)).ne E2 (by omega)), (by first | (rw [show leftB dim i (l.take 0) = 0 from rfl, Nat.add_zero]; exact ((((BL1_22.ext E1r).ext Eb23).ne Es1 (by omega)).ne E2 (by omega))) | (rw [leftB_step hp, wayN_cnt, ← Nat.add_assoc]; exact ((((BL1_22.ext E1r).ext Eb23).ne Es1 (by omega)).ne E2 (by omega)))), ((((BL1_40.ext E1r).ext Eb23).ne Es1 (by omega)).ne E2 (by omega)), HBE2, ((((BL1_902.ext E1r).ext Eb23).ne Es1 (by omega)).ne E2 (by omega)), (Bs1.ne E2 (by omega)), by omega⟩ ?_
    rintro n2 ρ2 w10 A2 EL2 ⟨k, rfl, hs2_22, BL2_1, BL2_800, BL2_21, BL2_22, BL2_40, BL2_901, BL2_902, BL2_23, hk⟩
    have F9 := F8.wide EL2
    have hzL2 := EL2.size
    have hlb := leftB_le dim i (l.take k)
    have hlt2 : (l.take k).length ≤ 8 := by rw [List.length_take]; omega
    refine wk_seq ?_
    refine wk_region ?_
    refine lx_value (want rfl) (rn_lss hs2_22 (A2.at 21 rfl rfl)) ?_
    refine lx_dec (fun hlk => ?_) (fun hlk => ?_)
    ·
      obtain ⟨p, hp⟩ := getx hlk
      obtain ⟨by_, oy, hsy, _, hcy⟩ := hpx k p hp
      obtain ⟨pa, pb, hpe, hpa, hpb⟩ := can_in ((hV.buf hl).2 p (List.mem_of_getElem? hp))
      obtain ⟨p1, p2, p3⟩ := p
      injection hpe with e1 hpe
      injection hpe with e2 e3
      subst e1
      subst e2
      subst hsy
      have hpb8 : pb < 8 := by omega
      obtain ⟨hxo, hpc⟩ := pop_cnt (s := i / (dim + 1)) hx2 hpb8
      have hcn := cnt_le (i / (dim + 1)) pb
      refine lx_nil ?_
      refine wk_seq ?_
      refine wk_cond_t rfl ?_
      refine wk_skip ?_
      refine wk_seq ?_
      refine wk_block ?_
      refine wk_seq ?_
      refine wk_region ?_
      refine lx_value (want rfl) (rn_index _ Tryd.underlying49 sz_41 (A2.at 20 rfl rfl) hs2_22 rfl (by omega)) ?_
      refine lx_value (want rfl) (rn_load3 ag_41 sz_41 rfl (F9.cell (fun h => h) (hcy 0 _ rfl)) (F9.cell (fun h => h) (hcy 1 _ rfl)) (F9.cell (fun h => h) (hcy 2 _ rfl))) ?_
      refine lx_new (want rfl) (rn_alloc ze_41) ?_
      intro b24 w11 hb24 Eb24 B24 hlb24
      have F10 := F9.ext Eb24
      have hzb24 := Eb24.size
      refine lx_set (want rfl) sz_41 rfl (t_agg rfl) rfl rfl rfl B24 (Nat.le_of_ble_eq_true rfl) ?_
      intro w12 Es2 Bs2
      have F11 := F10.set Es2 (by omega)
      have hzs2 := Es2.size
      refine lx_nil ?_
      refine wk_mix 9 (fun kS => match kS with | 7 => .val (.int .i64 (cnt (i / (dim + 1)) pb : Nat)) | _ => .none) (by kernel_rfl) (by kernel_rfl) (by intro kS G hk; (try dsimp only at hk); (split at hk) <;> first | (cases hk; done) | (injection hk with hk; subst hk; exact ⟨by intro j hkj I v w w' hR hG; first | exact hG, fun ⟨_, _, _, _, hs⟩ => by (try dsimp only at hs); split at hs <;> cases hs⟩)) (by intro kS s y G hk; (try dsimp only at hk); split at hk <;> cases hk) ?_
      simp only [List.take_succ_cons, List.take_zero, List.take_nil, List.drop_succ_cons, List.drop_zero, List.drop_nil]
      refine mx_calm rfl (want rfl) (fun u1 eu1 fu1 => rn_load1Blk ag_3 (A2.at 2 rfl ((hR1 2).trans rfl)) (((BL2_22.ext Eb24).ne Es2 (by omega)).ext ((ext_drawn _).trans' eu1)) rfl) ?_
      refine mx_calm rfl (want rfl) (fun u2 eu2 fu2 => rn_fieldAddr fa_82_0 (A2.at 4 rfl rfl)) ?_
      refine mx_calm rfl (want rfl) (fun u3 eu3 fu3 => rn_load1Blk ag_3 rfl (((BL2_23.ext Eb24).ne Es2 (by omega)).ext ((ext_drawn _).trans' eu3)) rfl) ?_
      refine mx_calm rfl (want rfl) (fun u4 eu4 fu4 => rn_fieldAddr fa_41_1 rfl) ?_
      refine mx_calm rfl (want rfl) (fun u5 eu5 fu5 => rn_load1Blk ag_3 rfl (Bs2.ext ((ext_drawn _).trans' eu5)) rfl) ?_
      refine mx_calm rfl (want rfl) (fun u6 eu6 fu6 => rn_xor rfl rfl ⟨by omega, by omega⟩) ?_
      refine mx_calm rfl (want rfl) (fun u7 eu7 fu7 => rn_conv Tryd.underlying3 Tryd.underlying119 rfl (wrapU64_nat (by omega))) ?_
      refine mx_val rfl (want rfl) (fun u8 eu8 fu8 => do_call (ent_func cf_84 (argsC (t_int rfl) args0)) (ones_ct (i / (dim + 1) ^^^ pb) hxo u8) (fun _ _ E h => ⟨E, (h.trans (by rw [hpc]))⟩)) ?_
      refine mx_calm rfl (want rfl) (fun u9 eu9 fu9 => rn_addN (m := 1) rfl rfl (by omega)) ?_
      refine mx_nil (fun w13 E3' H1 HS => ?_)
      have E3 := (ext_drawn _).trans' E3'
      have F12 := F11.ext E3
      have hz3 := E3.size
      refine lx_value (want rfl) (rn_addN rfl rfl (by omega)) ?_
      refine lx_set (want rfl) sz_3 (A2.at 2 rfl ((hR1 2).trans rfl)) (t_int rfl) rfl rfl rfl (((BL2_22.ext Eb24).ne Es2 (by omega)).ext E3) (Nat.le_of_ble_eq_true rfl) ?_
      intro w14 Es3 Bs3
      have F13 := F12.set Es3 (by omega)
      have hzs3 := Es3.size
      refine lx_nil ?_
      refine wk_region ?_
      refine lx_value (want rfl) (rn_add hs2_22 rfl (by omega)) ?_
      refine lx_value (want rfl) (mv_int rfl) ?_
      refine lx_nil ?_
      exact ⟨rfl, ((((((((((((((((((A2.up rfl _).up rfl _).up rfl _).up rfl _).none _).up rfl _).up rfl _).up rfl _).up rfl _).up rfl _).up rfl _).up rfl _).up rfl _).up rfl _).up rfl _).none _).up rfl _).up rfl _), Fr.between F8 F13 (by omega), _, (by omega), k + 1, rfl, rfl, ((((BL2_1.ext Eb24).ne Es2 (by omega)).ext E3).ne Es3 (by omega)), ((((BL2_800.ext Eb24).ne Es2 (by omega)).ext E3).ne Es3 (by omega)), ((((BL2_21.ext Eb24).ne Es2 (by omega)).ext E3).ne Es3 (by omega)), (by first | (rw [show leftB dim i (l.take 0) = 0 from rfl, Nat.add_zero]; exact Bs3) | (rw [leftB_step hp, wayN_cnt, ← Nat.add_assoc]; exact Bs3)), ((((BL2_40.ext Eb24).ne Es2 (by omega)).ext E3).ne Es3 (by omega)), ((((BL2_901.ext Eb24).ne Es2 (by omega)).ext E3).ne Es3 (by omega)), ((((BL2_902.ext Eb24).ne Es2 (by omega)).ext E3).ne Es3 (by omega)), ((((BL2_23.ext Eb24).ne Es2 (by omega)).ext E3).ne Es3 (by omega)), by omega⟩
    ·
      refine lx_nil ?_
      refine wk_seq ?_
      refine wk_cond_f rfl ?_
      refine wk_exit ?_
      refine ⟨BL2_901, fun w11 E4 HRE4 => ?_⟩
      have F14 := F9.set E4 (by omega)
      have hz4 := E4.size
      exact ⟨(by omega), (show Nx _ _ true from ⟨F14, (by omega), (BL2_1.ne E4 (by omega)), (BL2_800.ne E4 (by omega)), (BL2_21.ne E4 (by omega)), (by first | exact (BL2_22.ne E4 (by omega)) | (rw [← leftN_snd hl hlk]; exact (BL2_22.ne E4 (by omega)))), (BL2_40.ne E4 (by omega)), HRE4, (BL2_902.ne E4 (by omega))⟩)⟩
  ·
    rintro v w6 - (⟨w5, ⟨FW1, hzW1, BL1_1, BL1_800, BL1_21, BL1_22, BL1_40, BL1_901, BL1_902⟩, E1e⟩ | ⟨w5, hf, E1e⟩)
    ·
      have F15 := FW1.ext E1e
      have hz1e := E1e.size
      refine .inl ⟨(BL1_901.ext E1e), fun w7 E1f => ?_⟩
      have F16 := F15.set E1f (by omega)
      have hz1f := E1f.size
      refine wk_seq ?_
      refine wk_region ?_
      refine lx_value (want rfl) (rn_load1Blk ag_3 ((hR1 2).trans rfl) ((BL1_22.ext E1e).ne E1f (by omega)) rfl) ?_
      refine lx_set (want rfl) sz_3 ((hR1 2).trans rfl) (t_int rfl) rfl rfl rfl ((BL1_22.ext E1e).ne E1f (by omega)) (Nat.le_of_ble_eq_true rfl) ?_
      intro w8 Es4 Bs4
      have F17 := F16.set Es4 (by omega)
      have hzs4 := Es4.size
      refine lx_nil ?_
      refine wk_ret ?_
      refine retM1 (((BL1_902.ext E1e).ne E1f (by omega)).ne Es4 (by omega)) (fun w9 E5 => ?_)
      have F18 := F17.set E5 (by omega)
      have hz5 := E5.size
      refine retR1 Tryd.results52 (.cell ((hR1 2).trans rfl) (run_loadVar_blk1 ag_3 (Bs4.ne E5 (by omega)) rfl)) F18 ?_
      exact congrArg (fun n : Nat => Value.int .i64 ((leftN dim L n : Nat) : Int)) hTn
    ·
      exact hf.elim

theorem walk_ct (a b : Nat) (ha : a < 8) (hb : b < 8) (w0 : World) :
    CT Tryd.prog 50 [.int .i64 a, .int .i64 b] w0 no (fun v w => IntR w0.heap.size w v (wayL a b)) := by
  have F0 := Fr.refl no w0
  refine ct_body Tryd.func50 rfl Tryd.ntmps50 (Nat.le_of_ble_eq_true rfl) ?_
  refine wk_seq ?_
  refine wk_region ?_
  refine lx_value (want rfl) (as_slice rfl) ?_
  refine lx_nil ?_
  refine wk_seq ?_
  refine wk_region ?_
  refine lx_value (want rfl) (mv_int rfl) ?_
  refine lx_newS (want rfl) (rn_bslice (xs := [.tmp 7]) Tryd.underlying28 sz_3 ze_3 rfl (argsC (t_int rfl) args0) (CL.cons rfl rfl CL.nil) rfl (Nat.le_of_ble_eq_true rfl)) ?_
  intro b1 w1 hb1 Eb1 B1 hlb1
  have F1 := F0.ext Eb1
  have hzb1 := Eb1.size
  have ow1 := OwnS.full (n := 1) (size := 1) B1 rfl (by decide)
  have ge1 : ∀ k, ob (some (⟨b1, 0, none⟩ : Addr)) k → w0.heap.size ≤ k := fun k hk => by have := ob_some hk; omega
  refine lx_value (want rfl) (as_slice rfl) ?_
  refine lx_nil ?_
  refine wk_seq ?_
  refine wk_seq ?_
  refine wk_region ?_
  refine lx_value (want rfl) (mv_int rfl) ?_
  refine lx_value (want rfl) (mv_int rfl) ?_
  refine lx_call (want rfl) (ent_func cf_77 (argsC (t_int rfl) (argsC (t_int rfl) args0))) (bit_ct _ _ (by omega) (by omega) w1) ?_
  rintro _ w2 E1 rfl
  have F2 := F1.ext E1
  have hz1 := E1.size
  refine lx_value (want rfl) (as_int rfl) ?_
  refine lx_nil ?_
  refine wk_block ?_
  refine wk_loopA [0, 5, 6, 12, 13, 14, 15, 16, 17, 18, 19, 20, 21, 22, 23] (fun b => ob (some (⟨b1, 0, none⟩ : Addr)) b) (fun nM ρ w => ∃ (a2 : Nat) (l : List Int) (m : Nat) (so1_1 : Option Addr) (co1_1 : Nat), nM = cnt a2 b ∧ ρ 0 = .int .i64 a2 ∧ ρ 6 = .int .i64 (bitN a2 b) ∧ ρ 5 = .slice so1_1 (m) co1_1 ∧ OwnS w 3 1 so1_1 (m) co1_1 (l.flatMap intC) ∧ (∀ k, ob so1_1 k → w0.heap.size ≤ k) ∧ (∀ k, ob so1_1 k → (ob (some (⟨b1, 0, none⟩ : Addr)) k ∨ w2.heap.size ≤ k)) ∧ (a2 < 8) ∧ (m = l.length) ∧ (l ++ (wayFrom (cnt a2 b) a2 b).drop 1 = wayL a b) ∧ (l.length + cnt a2 b ≤ 4)) _ ⟨a, [(a : Int)], 1, (some (⟨b1, 0, none⟩ : Addr)), 1, rfl, rfl, rfl, rfl, (ow1.ext E1), ge1, (fun k h => .inl h), ha, rfl, way_start a b, by have := cnt_le a b; simp; omega⟩ ?_
  rintro n1 ρ1 w3 A1 EL1 ⟨a2, l, m, so1_1, co1_1, rfl, hs1_0, hs1_6, ho1_1, ow1L_1, ge1L_1, bk1L_1, ha2, hm, hl, hlen⟩
  have F3 := F2.new EL1 (fun i => (fun h => (ge1 _) h))
  have hzL1 := EL1.size
  refine wk_seq ?_
  refine wk_seq ?_
  refine wk_region ?_
  refine lx_value (want rfl) (mv_int hs1_6) ?_
  refine lx_value (want rfl) (rn_geq rfl rfl) ?_
  refine lx_dec (fun hge => ?_) (fun hge => ?_)
  ·
    obtain ⟨kk, hkk, hk3⟩ := bit_nat hge
    have hs6b : ρ1 6 = .int .i64 (kk : Int) := by rw [hs1_6, hkk]
    have hcnt := cnt_step ha2 hb hkk
    have hov := over_lt ha2 hk3
    refine lx_nil ?_
    refine wk_cond_t rfl ?_
    refine wk_skip ?_
    refine wk_seq ?_
    refine wk_block ?_
    refine wk_seq ?_
    refine wk_region ?_
    refine lx_value (want rfl) (mv_int hs1_0) ?_
    refine lx_value (want rfl) (mv_int hs6b) ?_
    refine lx_call (want rfl) (ent_func cf_78 (argsC (t_int rfl) (argsC (t_int rfl) args0))) (over_ct _ _ (by omega) (by omega) w3) ?_
    rintro _ w4 E2 rfl
    have F4 := F3.ext E2
    have hz2 := E2.size
    refine lx_value (want rfl) (as_int rfl) ?_
    refine lx_nil ?_
    refine wk_region ?_
    refine lx_value (want rfl) (mv_slice ho1_1) ?_
    refine lx_value (want rfl) (mv_int rfl) ?_
    refine lx_newS (want rfl) (rn_bslice (xs := [.tmp 21]) Tryd.underlying28 sz_3 ze_3 rfl (argsC (t_int rfl) args0) (CL.cons rfl rfl CL.nil) rfl (Nat.le_of_ble_eq_true rfl)) ?_
    intro b2 w5 hb2 Eb2 B2 hlb2
    have F5 := F4.ext Eb2
    have hzb2 := Eb2.size
    have nb1 : ∀ k, ob so1_1 k → k ≠ b2 := fun k hk => by have := (ow1L_1).lt hk; omega
    refine lx_append 8 (want rfl) Tryd.underlying28 ti_3 (by decide) rfl (by decide) rfl rfl ((ow1L_1.ext E2).ext Eb2) (Src.blk B2 rfl rfl) (by omega) ?_
    intro sq2 cq2 w6 AP2
    have EA2 := AP2.fr
    have ow2 := AP2.own
    have ge2 : ∀ k, ob sq2 k → w0.heap.size ≤ k := fun k hk => (AP2.blk k hk).elim (ge1L_1 k) (fun h => Nat.le_trans F5.size h)
    have ne2_2 : ∀ k, ob sq2 k → k ≠ b2 := fun k hk => (AP2.blk k hk).elim (nb1 k) (fun h => by have := (B2).lt; omega)
    have bk2_1 : ∀ k, ob sq2 k → (ob (some (⟨b1, 0, none⟩ : Addr)) k ∨ w2.heap.size ≤ k) := fun k hk => (AP2.blk k hk).elim (bk1L_1 k) (fun h => .inr (by omega))
    have F6 := F5.new EA2 ge1L_1
    have hzA2 := EA2.size
    have BA2_2 := B2.fr EA2 (fun h => nb1 _ h rfl)
    refine lx_value (want rfl) (as_slice rfl) ?_
    refine lx_nil ?_
    refine wk_region ?_
    refine lx_value (want rfl) (mv_int rfl) ?_
    refine lx_value (want rfl) (mv_int (A1.at 1 rfl rfl)) ?_
    refine lx_call (want rfl) (ent_func cf_77 (argsC (t_int rfl) (argsC (t_int rfl) args0))) (bit_ct _ _ (by omega) (by omega) w6) ?_
    rintro _ w7 E3 rfl
    have F7 := F6.ext E3
    have hz3 := E3.size
    refine lx_value (want rfl) (as_int rfl) ?_
    refine lx_nil ?_
    exact ⟨rfl, (((((((((((((((A1.up rfl _).up rfl _).up rfl _).up rfl _).up rfl _).up rfl _).up rfl _).up rfl _).up rfl _).up rfl _).up rfl _).up rfl _).up rfl _).up rfl _).up rfl _), (Fr.ext (Fr.trans (Fr.ext (Fr.ext EL1 E2) Eb2) EA2 (fun i hi1 h => ((bk1L_1 _ h).elim (fun h => h) (fun h => absurd hi1 (by omega))))) E3), _, (by omega), overN a2 kk, l ++ [((overN a2 kk : Nat) : Int)], m + 1, sq2, cq2, rfl, rfl, rfl, rfl, (own_snoc (ow2.ext E3)), ge2, bk2_1, over_lt ha2 hk3, (by simp [hm]), way_step hl hkk hcnt, by simp; omega⟩
  ·
    refine lx_nil ?_
    refine wk_cond_f rfl ?_
    refine wk_exit ?_
    refine wk_seq ?_
    refine wk_region ?_
    refine lx_value (want rfl) (mv_slice ho1_1) ?_
    refine lx_value (want rfl) (as_slice rfl) ?_
    refine lx_nil ?_
    refine wk_ret ?_
    refine retR1 Tryd.results50 (.tmp (t_slice rfl)) F3 ?_
    exact own_int ow1L_1 hm (way_end hl hge) ge1L_1

theorem target_ct (dim : Nat) (r : Int) (L : List (List Pk)) (s : Option Addr) (c : Nat) (G : Nat → Prop) (hV : Valid dim r L) (n : Nat) (p : Pk) (q : List Pk) (hn : L[n]? = some (p :: q)) (w0 : World) (hL : BufS G w0 s L) :
    CT Tryd.prog 71 [.agg #[.int .i64 dim, .int .i64 r, .slice s L.length c], .int .i64 n] w0 no (fun v _ => v = .int .i64 (tgt dim n p)) := by
  have hd := hV.hd
  obtain ⟨hn1, hn2, hn3, hn4⟩ := hV.at hn
  have h32 := prod_le hd
  have hnL := hV.len
  obtain ⟨pa, pb, hp, hpa, hpb⟩ := can_in ((hV.buf hn).2 p (List.mem_cons_self ..))
  have h28 := pow2_le dim (Nat.le_refl _) hd
  obtain ⟨p1, p2, p3⟩ := p
  injection hp with e1 hp
  injection hp with e2 e3
  subst e1
  subst e2
  obtain ⟨bx, ox, rfl, _, sx, cx, hcx, hpx⟩ := hL n _ hn
  obtain ⟨by_, oy, rfl, _, hcy⟩ := hpx 0 _ rfl
  have F0 := Fr.refl no w0
  refine ct_body Tryd.func71 rfl Tryd.ntmps71 (Nat.le_of_ble_eq_true rfl) ?_
  refine wk_seq ?_
  refine wk_region ?_
  refine lx_new (want rfl) (rn_box (t_agg rfl)) ?_
  intro b1 w1 hb1 Eb1 B1 hlb1
  have F1 := F0.ext Eb1
  have hzb1 := Eb1.size
  refine lx_value (want rfl) (as_int rfl) ?_
  refine lx_nil ?_
  refine wk_seq ?_
  refine wk_region ?_
  refine lx_value (want rfl) (mv_int rfl) ?_
  refine lx_value (want rfl) (rn_fieldAddr fa_24_0 rfl) ?_
  refine lx_value (want rfl) (rn_load1Blk ag_3 rfl B1 rfl) ?_
  refine lx_value (want rfl) (rn_addN rfl (n := 1) rfl (by omega)) ?_
  refine lx_value (want rfl) (rn_quoN rfl rfl (by omega)) ?_
  refine lx_value (want rfl) (as_int rfl) ?_
  refine lx_nil ?_
  refine wk_seq ?_
  refine wk_region ?_
  refine lx_value (want rfl) (mv_int rfl) ?_
  refine lx_value (want rfl) (rn_fieldAddr fa_24_2 rfl) ?_
  refine lx_value (want rfl) (rn_load1Blk ag_22 rfl B1 rfl) ?_
  refine lx_value (want rfl) (mv_int rfl) ?_
  refine lx_value (want rfl) (rn_index n Tryd.underlying22 sz_49 rfl rfl rfl (by omega)) ?_
  refine lx_value (want rfl) (rn_load1 ag_49 rfl (F1.cell (fun h => h) hcx)) ?_
  refine lx_value (want rfl) (rn_index 0 Tryd.underlying49 sz_41 rfl rfl rfl (by simp)) ?_
  refine lx_value (want rfl) (rn_fieldAddr fa_41_1 rfl) ?_
  refine lx_value (want rfl) (rn_load1 ag_3 rfl (F1.cell (fun h => h) (hcy 1 _ rfl))) ?_
  refine lx_call (want rfl) (ent_func cf_77 (argsC (t_int rfl) (argsC (t_int rfl) args0))) (bit_ct _ pb hn3 (by omega) w1) ?_
  rintro _ w2 E1 rfl
  have F2 := F1.ext E1
  have hz1 := E1.size
  refine lx_value (want rfl) (as_int rfl) ?_
  refine lx_nil ?_
  refine wk_seq ?_
  refine wk_seq ?_
  refine wk_region ?_
  refine lx_value (want rfl) (mv_int rfl) ?_
  refine lx_value (want rfl) (rn_lss rfl rfl) ?_
  refine lx_dec (fun hlt => ?_) (fun hlt => ?_)
  ·
    refine lx_nil ?_
    refine wk_cond_t rfl ?_
    refine wk_seq ?_
    refine wk_region ?_
    refine lx_value (want rfl) (as_int rfl) ?_
    refine lx_nil ?_
    refine wk_ret ?_
    refine retR1 Tryd.results71 (.tmp (t_int rfl)) F2 ?_
    exact tgt_none hlt
  ·
    obtain ⟨k, hk, hk3⟩ := bit_nat (Int.not_lt.1 hlt)
    obtain ⟨hov, hkd⟩ := over_dim hd hn2 hpb hk
    have hs6b : (Value.int IntKind.i64 (bitN (n / (dim + 1)) pb)) = .int .i64 (k : Int) := by rw [hk]
    refine lx_nil ?_
    refine wk_cond_f rfl ?_
    refine wk_skip ?_
    refine wk_seq ?_
    refine wk_mix 6 (fun kS => match kS with | 4 => .val (.int .i64 ((overN (n / (dim + 1)) k : Nat) : Int)) | _ => .none) (by kernel_rfl) (by kernel_rfl) (by intro kS G hk; (try dsimp only at hk); (split at hk) <;> first | (cases hk; done) | (injection hk with hk; subst hk; exact ⟨by intro j hkj I v w w' hR hG; first | exact hG, fun ⟨_, _, _, _, hs⟩ => by (try dsimp only at hs); split at hs <;> cases hs⟩)) (by intro kS s y G hk; (try dsimp only at hk); split at hk <;> cases hk) ?_
    simp only [List.take_succ_cons, List.take_zero, List.take_nil, List.drop_succ_cons, List.drop_zero, List.drop_nil]
    refine mx_calm rfl (want rfl) (fun u1 eu1 fu1 => rn_fieldAddr fa_24_0 rfl) ?_
    refine mx_calm rfl (want rfl) (fun u2 eu2 fu2 => rn_load1Blk ag_3 rfl ((B1.ext E1).ext ((ext_drawn _).trans' eu2)) rfl) ?_
    refine mx_calm rfl (want rfl) (fun u3 eu3 fu3 => mv_int rfl) ?_
    refine mx_calm rfl (want rfl) (fun u4 eu4 fu4 => mv_int (Eq.trans rfl hs6b)) ?_
    refine mx_val rfl (want rfl) (fun u5 eu5 fu5 => do_call (ent_func cf_78 (argsC (t_int rfl) (argsC (t_int rfl) args0))) (over_ct _ k hn3 hk3 u5) (fun _ _ E h => ⟨E, h⟩)) ?_
    refine mx_calm rfl (want rfl) (fun u6 eu6 fu6 => mv_int (Eq.trans rfl hs6b)) ?_
    refine mx_nil (fun w3 E2' H1 HS => ?_)
    have E2 := (ext_drawn _).trans' E2'
    have F3 := F2.ext E2
    have hz2 := E2.size
    refine lx_call (want rfl) (ent_func cf_58 (argsC (t_int rfl) (argsC (t_int rfl) (argsC (t_int rfl) args0)))) (buffer_ct dim (overN (n / (dim + 1)) k) k hd (by omega) (by omega) w3) ?_
    rintro _ w4 E3 rfl
    have F4 := F3.ext E3
    have hz3 := E3.size
    refine lx_value (want rfl) (as_int rfl) ?_
    refine lx_nil ?_
    refine wk_ret ?_
    refine retR1 Tryd.results71 (.tmp (t_int rfl)) F4 ?_
    exact tgt_some hk

theorem next_ct (p1 p3 : Int) (b s : Nat) (hb : b < 8) (hs : s < 8) (w0 : World) (hT : Tb w0 1) :
    CT Tryd.prog 76 [.agg #[.int .i64 p1, .int .i64 b, .int .i64 p3], .int .i64 s] w0 no (fun v _ => v = .tuple #[.agg #[.int .i64 ((nxt s b).1 : Nat), .int .i64 ((nxt s b).2 : Nat)], .bool (decide (s ≠ b))]) := by
  have hT1 := hT.lt
  have F0 := Fr.refl no w0
  refine ct_body Tryd.func76 rfl Tryd.ntmps76 (Nat.le_of_ble_eq_true rfl) ?_
  refine wk_seq ?_
  refine wk_region ?_
  refine lx_new (want rfl) (rn_box (t_agg rfl)) ?_
  intro b21 w1 hb21 Eb21 B21 hlb21
  have F1 := F0.ext Eb21
  have hzb21 := Eb21.size
  refine lx_new (want rfl) (rn_alloc ze_82) ?_
  intro b22 w2 hb22 Eb22 B22 hlb22
  have F2 := F1.ext Eb22
  have hzb22 := Eb22.size
  refine lx_value (want rfl) (as_bool rfl) ?_
  refine lx_nil ?_
  refine wk_seq ?_
  refine wk_seq ?_
  refine wk_region ?_
  refine lx_value (want rfl) (mv_int rfl) ?_
  refine lx_value (want rfl) (rn_fieldAddr fa_41_1 rfl) ?_
  refine lx_value (want rfl) (rn_load1Blk ag_3 rfl (B21.ext Eb22) rfl) ?_
  refine lx_value (want rfl) (rn_eql rfl rfl) ?_
  refine lx_dec (fun he => ?_) (fun he => ?_)
  ·
    refine lx_nil ?_
    refine wk_cond_t rfl ?_
    refine wk_seq ?_
    refine wk_region ?_
    refine lx_value (want rfl) (rn_build0  (fun w => bd_82  w)) ?_
    refine lx_set (want rfl) sz_82 rfl (t_agg rfl) rfl rfl rfl B22 (Nat.le_of_ble_eq_true rfl) ?_
    intro w3 Es1 Bs1
    have F3 := F2.set Es1 (by omega)
    have hzs1 := Es1.size
    refine lx_value (want rfl) (as_bool rfl) ?_
    refine lx_nil ?_
    refine wk_ret ?_
    refine retR2 Tryd.results76 (.cell rfl (run_loadVar_blk ag_82 sz_82 Bs1 rfl rfl)) (.tmp (t_bool rfl)) F3 ?_
    exact nxt_end he
  ·
    have hne : ¬ s = b := by omega
    obtain ⟨hx0, hx8, hx1, hx2⟩ := nxt_of hs hb hne
    have hz2 := tzN_le (s ^^^ b)
    refine lx_nil ?_
    refine wk_cond_f rfl ?_
    refine wk_skip ?_
    refine wk_seq ?_
    refine wk_region ?_
    refine lx_value (want rfl) (mv_int rfl) ?_
    refine lx_value (want rfl) (rn_fieldAddr fa_41_1 rfl) ?_
    refine lx_value (want rfl) (rn_load1Blk ag_3 rfl (B21.ext Eb22) rfl) ?_
    refine lx_value (want rfl) (rn_xor rfl rfl ⟨by omega, by omega⟩) ?_
    refine lx_value (want rfl) (rn_conv Tryd.underlying3 Tryd.underlying119 rfl (wrapU64_nat (by omega))) ?_
    refine lx_call (want rfl) (ent_func cf_89 (argsC (t_int rfl) args0)) (tz_ct (s ^^^ b) hx0 hx8 w2 ((hT.ext Eb21).ext Eb22)) ?_
    rintro _ w3 E1 rfl
    have F4 := F2.ext E1
    have hz1 := E1.size
    refine lx_value (want rfl) (as_int rfl) ?_
    refine lx_nil ?_
    refine wk_seq ?_
    refine wk_region ?_
    refine lx_value (want rfl) (mv_int rfl) ?_
    refine lx_value (want rfl) (mv_int rfl) ?_
    refine lx_value (want rfl) (rn_shl (m := 1) (n := tzN (s ^^^ b)) rfl rfl (by have := Nat.pow_le_pow_right (n := 2) (by decide) hz2; omega)) ?_
    refine lx_value (want rfl) (rn_xor rfl rfl ⟨by omega, by have := Nat.pow_le_pow_right (n := 2) (by decide) hz2; omega⟩) ?_
    refine lx_value (want rfl) (mv_int rfl) ?_
    refine lx_value (want rfl) (rn_build2 (t_int rfl) (t_int rfl) (fun w => bd_82_0_1 _ _ w)) ?_
    refine lx_set (want rfl) sz_82 rfl (t_agg rfl) rfl rfl rfl (B22.ext E1) (Nat.le_of_ble_eq_true rfl) ?_
    intro w4 Es2 Bs2
    have F5 := F4.set Es2 (by omega)
    have hzs2 := Es2.size
    refine lx_value (want rfl) (as_bool rfl) ?_
    refine lx_nil ?_
    refine wk_ret ?_
    refine retR2 Tryd.results76 (.cell rfl (run_loadVar_blk ag_82 sz_82 Bs2 rfl rfl)) (.tmp (t_bool rfl)) F5 ?_
    exact nxt_on hs hb hne

theorem within_ct (a b : Int) (l : List Int) (s : Option Addr) (c : Nat) (F : Nat → Prop) (w0 : World) (hl : IntS F w0 s l) (hb : l.length ≤ 1048576) :
    CT Tryd.prog 47 [.int .i64 a, .int .i64 b, .slice s l.length c] w0 no (fun v _ => v = .bool (inB a b l)) := by
  have F0 := Fr.refl no w0
  refine ct_body Tryd.func47 rfl Tryd.ntmps47 (Nat.le_of_ble_eq_true rfl) ?_
  refine wk_seq ?_
  refine wk_region ?_
  refine lx_new (want rfl) (rn_box (t_int rfl)) ?_
  intro b1 w1 hb1 Eb1 B1 hlb1
  have F1 := F0.ext Eb1
  have hzb1 := Eb1.size
  refine lx_new (want rfl) (rn_box (t_int rfl)) ?_
  intro b2 w2 hb2 Eb2 B2 hlb2
  have F2 := F1.ext Eb2
  have hzb2 := Eb2.size
  refine lx_value (want rfl) (as_bool rfl) ?_
  refine lx_nil ?_
  refine wk_seq ?_
  refine wk_region ?_
  refine lx_value (want rfl) (mv_slice rfl) ?_
  refine lx_value (want rfl) (rn_makeFunc (argsC (t_pointer rfl) (argsC (t_pointer rfl) args0))) ?_
  refine lx_call (want rfl) (ent_func cf_66 (argsC (t_slice rfl) (argsC (t_func rfl) args0))) (contains_ct l _ _ _ 73 [.pointer (some ⟨b1, 0, none⟩), .pointer (some ⟨b2, 0, none⟩)] (outB a b) cf_73 w2 (hl.fr (int_stab _) F2 (fun _ _ h => h)) hb (fun z w hz E => within1_ct z a b b1 b2 w ((B1.ext Eb2).ext E) (B2.ext E))) ?_
  rintro _ w3 E1 rfl
  have F3 := F2.ext E1
  have hz1 := E1.size
  refine lx_value (want rfl) (rn_not rfl) ?_
  refine lx_value (want rfl) (as_bool rfl) ?_
  refine lx_nil ?_
  refine wk_ret ?_
  refine retR1 Tryd.results47 (.tmp (t_bool rfl)) F3 ?_
  exact in_out a b l

end Go.Proofs.YtlfclnkoimfhmaaDoor

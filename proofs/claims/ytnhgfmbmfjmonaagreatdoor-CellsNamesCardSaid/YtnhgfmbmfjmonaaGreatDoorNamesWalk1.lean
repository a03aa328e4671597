/- What functions compute: meet, sametold, equalv, samevalues, operations, itoa. -/
import Derived.Test.YtnhgfmbmfjmonaaGreatDoorNamesFacts
import Derived.Test.YtnhgfmbmfjmonaaGreatDoorNamesPre
set_option maxRecDepth 100000
set_option linter.unusedVariables false
set_option linter.unusedSimpArgs false
namespace Go.Proofs.YtnhgfmbmfjmonaaGreatDoor
open Go Go.RowKit Go.Mix Go.Eng
set_option maxRecDepth 100000 in
theorem meet_ct (Z : Nat → Prop) (b : Nat) (O : List Nat) (hOb : O.length ≤ 1048576) (l : List Vl) (s : Option Addr) (c : Nat) (F : Nat → Prop) (hFZ : ∀ k, F k → ¬ Z k) (hlb : l.length ≤ 1048576) (hl0 : ∀ v ∈ l, v.1 = 4 → 0 ≤ v.2) (w0 : World) (hM : MtO Z w0 b O) (hl : VlS F w0 s l) :
  CT Tryz.prog 120 [.pointer (some ⟨b, 0, none⟩), .slice s l.length c] w0 Z (fun v w => OutT Z w0.heap.size b O l w v) := by
 obtain ⟨bm, sM, cM, hBm, hMm, hOm, hbm, hnb, hnbm, hZb50, hZb51, hZo2, hZl⟩ := hM
 have hlb := hBm.lt
 have hlbm := hMm.lt
 have F0 := Fr.refl Z w0
 have zo2 : ∀ k, ob sM k → Z k ∨ w0.heap.size ≤ k := fun k h => .inl (hZo2 k h)
 refine ct_body Tryz.func120 rfl Tryz.ntmps120 (Nat.le_of_ble_eq_true rfl) ?_
 refine wk_seq ?_
 refine wk_region ?_
 refine lx_value (want rfl) (as_slice rfl) ?_
 refine lx_nil ?_
 refine wk_seq ?_
 refine wk_seq ?_
 refine wk_region ?_
 refine lx_value (want rfl) (mv_slice rfl) ?_
 refine lx_value (want rfl) (rn_len Tryz.underlying30 rfl) ?_
 refine lx_value (want rfl) (mv_int rfl) ?_
 refine lx_nil ?_
 refine wk_block ?_
 refine wk_loopA [4, 6, 7, 8, 11, 12, 13, 14, 15, 16, 17, 18, 19, 20, 21, 22, 23, 24, 25, 26, 27, 28, 29, 30, 31, 32, 33, 34, 35, 36, 37, 38, 39, 40, 41, 42, 43, 44, 45, 46, 47, 48, 49, 50, 51, 52, 53, 54, 55, 56, 57, 58, 59, 60, 61] (fun j => Z j ∨ w0.heap.size ≤ j) (fun nM ρ w => ∃ (i : Nat) (so1_3 : Option Addr) (co1_3 : Nat) (so1_2 : Option Addr) (co1_2 : Nat), nM = l.length - i ∧ ρ 11 = .int .i64 i ∧ Blk w b [.map (some bm), .slice so1_2 (metL O (l.take i)).length co1_2] 172 ∧ MapB w bm kI (numF (metL O (l.take i))) ∧ ρ 4 = .slice so1_3 ((renL O (l.take i)).length) co1_3 ∧ OwnS w 36 2 so1_3 ((renL O (l.take i)).length) co1_3 ((renL O (l.take i)).flatMap vlC) ∧ (∀ k, ob so1_3 k → Z k ∨ w0.heap.size ≤ k) ∧ (∀ k, ob so1_3 k → k ≠ b) ∧ (∀ k, ob so1_3 k → k ≠ bm) ∧ OwnS w 3 1 so1_2 ((metL O (l.take i)).length) co1_2 ((metL O (l.take i)).flatMap natC) ∧ (∀ k, ob so1_2 k → Z k ∨ w0.heap.size ≤ k) ∧ (∀ k, ob so1_2 k → k ≠ b) ∧ (∀ k, ob so1_2 k → k ≠ bm) ∧ (∀ k, ob so1_3 k → ob so1_2 k → False) ∧ (i ≤ l.length) ∧ (∀ k, ob so1_3 k → w0.heap.size ≤ k)) _ ⟨0, none, 0, sM, cM, rfl, rfl, (by first | exact hBm | (rw [hm1]; first | exact hBm | (rw [List.length_append]; exact hBm))), (by first | exact hMm | (rw [hm1]; first | exact hMm | exact MapB.of hMm (numF_new (h0v h4) hin))), rfl, (OwnS.nil w0 36 2), (fun _ h => ob_none h), (fun _ h => ob_none h), (fun _ h => ob_none h), hOm, zo2, hnb, hnbm, (fun _ h _ => ob_none h), by omega, (fun _ h => ob_none h)⟩ ?_
 rintro n1 ρ1 w1 A1 EL1 ⟨i, so1_3, co1_3, so1_2, co1_2, rfl, hs1_11, BL1_50, BL1_51, ho1_3, ow1L_3, ge1L_3, ne1L_3_50, ne1L_3_51, ow1L_2, ge1L_2, ne1L_2_50, ne1L_2_51, sp1L_3_2, hi, hs3⟩
 have F1 := F0.wide EL1
 have hzL1 := EL1.size
 refine wk_seq ?_
 refine wk_region ?_
 refine lx_value (want rfl) (rn_lss hs1_11 (A1.at 10 rfl rfl)) ?_
 refine lx_dec (fun hlt => ?_) (fun hlt => ?_)
 ·
  obtain ⟨vq, hv⟩ := getx hlt
  obtain ⟨bv, ov, rfl, hFv, hcv⟩ := hl i vq hv
  have h0v := hl0 vq (List.mem_of_getElem? hv)
  have hln := metL_len (l.take i) O
  have hlt2 : (l.take i).length = i := by rw [List.length_take]; have := (List.getElem?_eq_some_iff.1 hv).1; omega
  have hrl := renL_len (l.take i) O
  refine lx_nil ?_
  refine wk_seq ?_
  refine wk_cond_t rfl ?_
  refine wk_skip ?_
  refine wk_seq ?_
  refine wk_block ?_
  refine wk_seq ?_
  refine wk_region ?_
  refine lx_value (want rfl) (rn_index _ Tryz.underlying30 sz_36 (A1.at 9 rfl rfl) hs1_11 rfl (by omega)) ?_
  refine lx_value (want rfl) (rn_load2 ag_36 sz_36 rfl (F1.cell (hFZ _ hFv) (hcv 0 _ rfl)) (F1.cell (hFZ _ hFv) (hcv 1 _ rfl))) ?_
  refine lx_new (want rfl) (rn_alloc ze_36) ?_
  intro b21 w2 hb21 Eb21 B21 hlb21
  have F2 := F1.ext Eb21
  have hzb21 := Eb21.size
  have nb1 : ∀ k, ob so1_3 k → k ≠ b21 := fun k hk => by have := (ow1L_3).lt hk; omega
  have nb2 : ∀ k, ob so1_2 k → k ≠ b21 := fun k hk => by have := (ow1L_2).lt hk; omega
  refine lx_set (want rfl) sz_36 rfl (t_agg rfl) rfl rfl rfl B21 (Nat.le_of_ble_eq_true rfl) ?_
  intro w3 Es1 Bs1
  have F3 := F2.set Es1 (by omega)
  have hzs1 := Es1.size
  refine lx_nil ?_
  refine wk_seq ?_
  refine wk_seq ?_
  refine wk_region ?_
  refine lx_value (want rfl) (rn_fieldAddr fa_36_0 rfl) ?_
  refine lx_value (want rfl) (rn_load1Blk ag_5 rfl Bs1 rfl) ?_
  refine lx_value (want rfl) (rn_eql rfl rfl) ?_
  refine lx_dec (fun h4 => ?_) (fun h4 => ?_)
  ·
   obtain ⟨q, bq, hqe, hq1, hq0⟩ := look_met (O := (metL O (l.take i))) (h0v h4)
   have hnum := num_eq (h0v h4)
   refine lx_nil ?_
   refine wk_cond_t rfl ?_
   refine wk_seq ?_
   refine wk_mix 11 (fun _ => .none) (by kernel_rfl) (by kernel_rfl) (fun kS G hk => by cases hk) (fun kS s y G hk => by cases hk) ?_
   simp only [List.take_succ_cons, List.take_zero, List.take_nil, List.drop_succ_cons, List.drop_zero, List.drop_nil]
   refine mx_calm rfl (want rfl) (fun u1 eu1 fu1 => mv_pointer (A1.at 0 rfl rfl)) ?_
   refine mx_calm rfl (want rfl) (fun u2 eu2 fu2 => rn_nilCheck rfl) ?_
   refine mx_calm rfl (want rfl) (fun u3 eu3 fu3 => rn_fieldAddr fa_172_0 rfl) ?_
   refine mx_calm rfl (want rfl) (fun u4 eu4 fu4 => rn_load1Blk ag_154 rfl (((BL1_50.ext Eb21).ne Es1 (by omega)).ext ((ext_drawn _).trans' eu4)) rfl) ?_
   refine mx_calm rfl (want rfl) (fun u5 eu5 fu5 => rn_fieldAddr fa_36_1 rfl) ?_
   refine mx_calm rfl (want rfl) (fun u6 eu6 fu6 => rn_load1Blk ag_3 rfl (Bs1.ext ((ext_drawn _).trans' eu6)) rfl) ?_
   refine mx_calm (v := .tuple #[.int .i64 q, .bool bq]) rfl (want rfl) (fun u7 eu7 fu7 => (by rw [← hqe]; exact rn_lookOk mv_154 rfl rfl (MapB.v (((BL1_51.ext Eb21).ne Es1 (by omega)).ext ((ext_drawn _).trans' eu7))))) ?_
   refine mx_calm rfl (want rfl) (fun u8 eu8 fu8 => mv_tuple rfl) ?_
   refine mx_calm rfl (want rfl) (fun u9 eu9 fu9 => rn_extract rfl rfl) ?_
   refine mx_calm rfl (want rfl) (fun u10 eu10 fu10 => rn_extract rfl rfl) ?_
   refine mx_split (fun hb => ?_) (fun hb => ?_)
   ·
    obtain ⟨hin, hqv⟩ := hq1 hb
    obtain ⟨hm1, hm2⟩ := meet_old hv h4 hin
    subst hqv
    refine mx_calm rfl (want rfl) (fun u11 eu11 fu11 => as_int rfl) ?_
    refine mx_nil (fun w4 E1' H1 HS => ?_)
    have E1 := (ext_drawn _).trans' E1'
    have F4 := F3.ext E1
    have hz1 := E1.size
    refine lx_value (want rfl) (as_bool rfl) ?_
    refine lx_nil ?_
    refine wk_seq ?_
    refine wk_seq ?_
    refine wk_region ?_
    refine lx_value (want rfl) (mv_bool rfl) ?_
    refine lx_value (want rfl) (rn_not rfl) ?_
    refine lx_nil ?_
    refine wk_cond_f rfl ?_
    refine wk_skip ?_
    refine wk_region ?_
    refine lx_value (want rfl) (mv_int rfl) ?_
    refine lx_value (want rfl) (rn_fieldAddr fa_36_1 rfl) ?_
    refine lx_set (want rfl) sz_3 rfl (t_int rfl) rfl rfl rfl (Bs1.ext E1) (Nat.le_of_ble_eq_true rfl) ?_
    intro w5 Es2 Bs2
    have F5 := F4.set Es2 (by omega)
    have hzs2 := Es2.size
    refine lx_nil ?_
    refine wk_region ?_
    refine lx_value (want rfl) (mv_slice ho1_3) ?_
    refine lx_value (want rfl) (rn_loadBlk ag_36 sz_36 rfl Bs2 rfl rfl) ?_
    refine lx_newS (want rfl) (rn_bslice (xs := [.tmp 58]) Tryz.underlying30 sz_36 ze_36 rfl (argsC (t_agg rfl) args0) (CL.cons rfl rfl CL.nil) rfl (Nat.le_of_ble_eq_true rfl)) ?_
    intro b22 w6 hb22 Eb22 B22 hlb22
    have F6 := F5.ext Eb22
    have hzb22 := Eb22.size
    have nb3 : ∀ k, ob so1_3 k → k ≠ b22 := fun k hk => by have := (ow1L_3).lt hk; omega
    have nb4 : ∀ k, ob so1_2 k → k ≠ b22 := fun k hk => by have := (ow1L_2).lt hk; omega
    refine lx_append 16 (want rfl) Tryz.underlying30 ti_36 (by decide) rfl (by decide) rfl rfl (((((ow1L_3.ext Eb21).ne Es1 (fun h => nb1 _ h rfl)).ext E1).ne Es2 (fun h => nb1 _ h rfl)).ext Eb22) ((Src.blk B22 rfl rfl)) (by omega) ?_
    intro sq2 cq2 w7 AP2
    have EA2 := AP2.fr
    have ow2 := AP2.own
    have ge2 : ∀ k, ob sq2 k → Z k ∨ w0.heap.size ≤ k := fun k hk => (AP2.blk k hk).elim (ge1L_3 k) (fun h => .inr (Nat.le_trans F6.size h))
    have ne2_50 : ∀ k, ob sq2 k → k ≠ b := fun k hk => (AP2.blk k hk).elim (ne1L_3_50 k) (fun h => by have := ((((((BL1_50.ext Eb21).ne Es1 (by omega)).ext E1).ne Es2 (by omega)).ext Eb22)).lt; omega)
    have ne2_51 : ∀ k, ob sq2 k → k ≠ bm := fun k hk => (AP2.blk k hk).elim (ne1L_3_51 k) (fun h => by have := ((((((BL1_51.ext Eb21).ne Es1 (by omega)).ext E1).ne Es2 (by omega)).ext Eb22)).lt; omega)
    have ne2_21 : ∀ k, ob sq2 k → k ≠ b21 := fun k hk => (AP2.blk k hk).elim (nb1 k) (fun h => by have := ((Bs2.ext Eb22)).lt; omega)
    have ne2_22 : ∀ k, ob sq2 k → k ≠ b22 := fun k hk => (AP2.blk k hk).elim (nb3 k) (fun h => by have := (B22).lt; omega)
    have sp2_2 : ∀ k, ob sq2 k → ob so1_2 k → False := fun k hk h2 => (AP2.blk k hk).elim (fun h => sp1L_3_2 k h h2) (fun h => by have := ((((((ow1L_2.ext Eb21).ne Es1 (fun h => nb2 _ h rfl)).ext E1).ne Es2 (fun h => nb2 _ h rfl)).ext Eb22)).lt h2; omega)
    have F7 := F6.new' EA2 ge1L_3
    have hzA2 := EA2.size
    have BA2_50 := (((((BL1_50.ext Eb21).ne Es1 (by omega)).ext E1).ne Es2 (by omega)).ext Eb22).fr EA2 (fun h => ne1L_3_50 _ h rfl)
    have BA2_51 := (((((BL1_51.ext Eb21).ne Es1 (by omega)).ext E1).ne Es2 (by omega)).ext Eb22).fr EA2 (fun h => ne1L_3_51 _ h rfl)
    have BA2_21 := (Bs2.ext Eb22).fr EA2 (fun h => nb1 _ h rfl)
    have BA2_22 := B22.fr EA2 (fun h => nb3 _ h rfl)
    have oA2_2 := (((((ow1L_2.ext Eb21).ne Es1 (fun h => nb2 _ h rfl)).ext E1).ne Es2 (fun h => nb2 _ h rfl)).ext Eb22).fr EA2 (fun k h1 h2 => sp1L_3_2 k h2 h1)
    have sr2_2 : ∀ k, ob so1_2 k → ob sq2 k → False := fun k h1 h2 => sp2_2 k h2 h1
    refine lx_value (want rfl) (as_slice rfl) ?_
    refine lx_nil ?_
    refine wk_region ?_
    refine lx_value (want rfl) (rn_add hs1_11 rfl (by omega)) ?_
    refine lx_value (want rfl) (mv_int rfl) ?_
    refine lx_nil ?_
    exact ⟨rfl, ((((((((((((((((((((((((((((((((A1.up rfl _).up rfl _).up rfl _).up rfl _).none _).up rfl _).up rfl _).up rfl _).up rfl _).up rfl _).up rfl _).up rfl _).up rfl _).up rfl _).up rfl _).up rfl _).up rfl _).up rfl _).up rfl _).up rfl _).up rfl _).up rfl _).up rfl _).up rfl _).none _).up rfl _).up rfl _).up rfl _).up rfl _).up rfl _).up rfl _).up rfl _), Fr.between F0 F7 (by omega), _, (by omega), i + 1, sq2, cq2, so1_2, co1_2, rfl, rfl, (by first | exact BA2_50 | (rw [hm1]; first | exact BA2_50 | (rw [List.length_append]; exact BA2_50))), (by first | exact BA2_51 | (rw [hm1]; first | exact BA2_51 | exact MapB.of BA2_51 (numF_new (h0v h4) hin))), (by rw [hm2, List.length_append]; exact rfl), (by rw [hm2]; exact own_more ow2 rfl), ge2, ne2_50, ne2_51, (by rw [hm1]; first | exact oA2_2 | exact own_more oA2_2 (by rw [natC, hnum])), ge1L_2, ne1L_2_50, ne1L_2_51, sp2_2, by have := (List.getElem?_eq_some_iff.1 hv).1; omega, (fun k hk => (AP2.blk k hk).elim (hs3 k) (fun h => by omega))⟩
   ·
    have hin := hq0 hb
    obtain ⟨hm1, hm2⟩ := meet_new hv h4 hin
    refine mx_calm rfl (want rfl) (fun u12 eu12 fu12 => as_int rfl) ?_
    refine mx_nil (fun w4 E2' H2 HS => ?_)
    have E2 := (ext_drawn _).trans' E2'
    have F8 := F3.ext E2
    have hz2 := E2.size
    refine lx_value (want rfl) (as_bool rfl) ?_
    refine lx_nil ?_
    refine wk_seq ?_
    refine wk_seq ?_
    refine wk_region ?_
    refine lx_value (want rfl) (mv_bool rfl) ?_
    refine lx_value (want rfl) (rn_not rfl) ?_
    refine lx_nil ?_
    refine wk_cond_t rfl ?_
    refine wk_seq ?_
    refine wk_region ?_
    refine lx_value (want rfl) (mv_pointer (A1.at 0 rfl rfl)) ?_
    refine lx_value (want rfl) (rn_nilCheck rfl) ?_
    refine lx_value (want rfl) (rn_fieldAddr fa_172_1 rfl) ?_
    refine lx_value (want rfl) (rn_load1Blk ag_77 rfl (((BL1_50.ext Eb21).ne Es1 (by omega)).ext E2) rfl) ?_
    refine lx_value (want rfl) (rn_len Tryz.underlying77 rfl) ?_
    refine lx_value (want rfl) (as_int rfl) ?_
    refine lx_nil ?_
    have hOw2 := (((ow1L_2.ext Eb21).ne Es1 (fun h => nb2 _ h rfl)).ext E2)
    refine wk_mixW 19 (fun j => match j with | 15 => (fun kq => ob so1_2 kq) | 16 => (fun kq => kq = bm) | 18 => (fun kq => kq = bm) | _ => no) (fun j (w w' : World) => match j with | 18 => ∀ n, MapS w bm kI (numF (metL O (l.take i))) vq.2 n → MapS w' bm kI (numF (metL O (l.take i))) vq.2 n | _ => True) (fun i => match i with | 15 => (fun kq => kq = bm) | 16 => (fun kq => ob so1_2 kq) | _ => (fun kq => ob so1_2 kq ∨ kq = bm)) (fun kq => ob so1_2 kq ∨ kq = bm) (fun kS => match kS with | 14 => .any 49 (fun I v w => ∃ b, v = .slice (some ⟨b, 0, none⟩) 1 1 ∧ w4.heap.size ≤ b ∧ Blk w b [.int .i64 vq.2] 3) | 15 => .any 50 (fun I v w => ∃ s c, v = .slice s ((metL O (l.take i)).length + 1) c ∧ OwnS w 3 1 s ((metL O (l.take i)).length + 1) c (((metL O (l.take i)).flatMap natC) ++ [.int .i64 vq.2]) ∧ ∀ k, ob s k → (ob so1_2 k ∨ w4.heap.size ≤ k)) | 16 => .any 51 (fun I v w => ∃ n : Nat, v = .tuple #[.int .i64 0, .int .i64 n] ∧ MapS w bm kI (numF (metL O (l.take i))) vq.2 n) | 17 => .any 52 (fun I v w => ∃ n : Nat, v = .int .i64 n ∧ MapS w bm kI (numF (metL O (l.take i))) vq.2 n) | 18 => .any 1000000 (fun I v w => MapB w bm kI (fun k' => if k' = vq.2 then some (.int .i64 (((metL O (l.take i)).length : Nat) : Int)) else numF (metL O (l.take i)) k')) | _ => .none) (by kernel_rfl) (by kernel_rfl) ⟨by intro i e G o hk ho; (try dsimp only at hk); split at hk <;> first | (cases hk; done) | (injection hk with hk1 hk2; subst hk1; first | exact .inl ((congrArg (fun q => Option.bind q Oper.dst) ho).symm.trans (by rfl)) | (refine .inr fun j oj hoj => ?_; obtain ⟨q1, q2⟩ := ghost_ok (by kernel_rfl) j oj hoj; exact ⟨q1, q2, fun G' hj h => by (try dsimp only at h); split at h <;> first | (cases h; done) | (exact absurd rfl hj) | (injection h with h1 _; first | (cases h1; done) | (exact absurd h1 (by decide)))⟩))⟩ (by intro i j hij hw k hk; (try dsimp only at hk); split at hk <;> (try exact hk.elim) <;> (try dsimp only) <;> split <;> first | exact hk | exact .inl hk | exact .inr hk | exact absurd rfl hij | exact absurd (hw.symm.trans (by kernel_rfl)) Bool.false_ne_true) (by intro j k hk; (try dsimp only at hk); split at hk <;> first | exact hk.elim | exact hk | exact .inl hk | exact .inr hk) (by intro kS e G hk j hkj hw I v w w' hR hX hG; (try dsimp only at hk); split at hk <;> first | (cases hk; done) | (injection hk with hk1 hk2; subst hk1; subst hk2; (try dsimp only at hR hX hG); split at hR <;> first | exact absurd rfl hkj | (obtain ⟨b, h1, h2, h3⟩ := hG; exact ⟨b, h1, h2, h3.fr hR (by intro hs; first | exact hs.elim | (have hs : b = _ := hs; omega) | (have := hOw2.lt hs; omega))⟩) | (obtain ⟨s, c, h1, h2, h3⟩ := hG; exact ⟨s, c, h1, h2.fr hR (by intro k hk hs; first | exact hs.elim | (have hs : k = _ := hs; exact (h3 k hk).elim (fun h => ne1L_2_50 k h hs) (fun h => by omega))), h3⟩) | (obtain ⟨s, c, h1, h2, h3⟩ := hG; exact ⟨s, c, h1, h2.fr hR (by intro k hk hs; first | exact hs.elim | (have hs : k = _ := hs; exact (h3 k hk).elim (fun h => ne1L_2_51 k h hs) (fun h => by omega))), h3⟩) | (obtain ⟨s, c, h1, h2, h3⟩ := hG; exact ⟨s, c, h1, h2.fr hR (by intro k hk hs; first | exact hs.elim | (have hs : k = _ := hs; exact (h3 k hk).elim (fun h => nb2 k h hs) (fun h => by omega))), h3⟩) | (obtain ⟨n, h1, h2⟩ := hG; exact ⟨n, h1, hX n h2⟩) | (obtain ⟨n, h1, h2⟩ := hG; exact ⟨n, h1, h2.ext hR⟩) | exact hG.ext hR | exact absurd (hw.symm.trans (by kernel_rfl)) Bool.false_ne_true)) ?_
    simp only [List.take_succ_cons, List.take_zero, List.take_nil, List.drop_succ_cons, List.drop_zero, List.drop_nil]
    refine mw_calm rfl (want rfl) (fun u13 eu13 fu13 => mv_pointer (A1.at 0 rfl rfl)) ?_
    refine mw_calm rfl (want rfl) (fun u14 eu14 fu14 => rn_nilCheck rfl) ?_
    refine mw_calm rfl (want rfl) (fun u15 eu15 fu15 => rn_fieldAddr fa_172_0 rfl) ?_
    refine mw_calm rfl (want rfl) (fun u16 eu16 fu16 => rn_load1Blk ag_154 rfl ((((BL1_50.ext Eb21).ne Es1 (by omega)).ext E2).fr (show Fr (fun kq => ob so1_2 kq ∨ kq = bm) _ _ from mG eu16) (fun h => h.elim (fun h => ne1L_2_50 _ h rfl) (fun h => (fun h => absurd h (by omega)) h))) rfl) ?_
    refine mw_calm rfl (want rfl) (fun u17 eu17 fu17 => rn_fieldAddr fa_36_1 rfl) ?_
    refine mw_calm rfl (want rfl) (fun u18 eu18 fu18 => rn_load1Blk ag_3 rfl ((Bs1.ext E2).fr (show Fr (fun kq => ob so1_2 kq ∨ kq = bm) _ _ from mG eu18) (fun h => h.elim (fun h => nb2 _ h rfl) (fun h => (fun h => absurd h (by omega)) h))) rfl) ?_
    refine mw_calm rfl (want rfl) (fun u19 eu19 fu19 => mv_pointer (A1.at 0 rfl rfl)) ?_
    refine mw_calm rfl (want rfl) (fun u20 eu20 fu20 => mv_int rfl) ?_
    refine mw_calm rfl (want rfl) (fun u21 eu21 fu21 => mv_pointer (A1.at 0 rfl rfl)) ?_
    refine mw_calm rfl (want rfl) (fun u22 eu22 fu22 => rn_nilCheck rfl) ?_
    refine mw_calm rfl (want rfl) (fun u23 eu23 fu23 => rn_fieldAddr fa_172_1 rfl) ?_
    refine mw_calm rfl (want rfl) (fun u24 eu24 fu24 => rn_load1Blk ag_77 rfl ((((BL1_50.ext Eb21).ne Es1 (by omega)).ext E2).fr (show Fr (fun kq => ob so1_2 kq ∨ kq = bm) _ _ from mG eu24) (fun h => h.elim (fun h => ne1L_2_50 _ h rfl) (fun h => (fun h => absurd h (by omega)) h))) rfl) ?_
    refine mw_calm rfl (want rfl) (fun u25 eu25 fu25 => rn_fieldAddr fa_36_1 rfl) ?_
    refine mw_calm rfl (want rfl) (fun u26 eu26 fu26 => rn_load1Blk ag_3 rfl ((Bs1.ext E2).fr (show Fr (fun kq => ob so1_2 kq ∨ kq = bm) _ _ from mG eu26) (fun h => h.elim (fun h => nb2 _ h rfl) (fun h => (fun h => absurd h (by omega)) h))) rfl) ?_
    refine mw_any rfl rfl (want rfl) (fun u27 eu27 fu27 => (do_newS2 (rn_bslice (xs := [.tmp 48]) Tryz.underlying77 sz_3 ze_3 rfl (argsC (t_int rfl) args0) (CL.cons rfl rfl CL.nil) rfl (Nat.le_of_ble_eq_true rfl)) (show _ ≤ _ from ((show Fr (fun kq => ob so1_2 kq ∨ kq = bm) _ _ from mG eu27)).size)).mono (fun v w' h => ⟨⟨h.1, trivial⟩, by obtain ⟨b, h2, h3, _, h4⟩ := h.2; exact ⟨b, h2, h3, h4⟩⟩)) (fun I49 v49 => ?_)
    refine mw_any rfl rfl (want rfl) (fun u28 eu28 fu28 => by obtain ⟨b49, rfl, hb49, hB49⟩ := fu28 49 _ rfl (show (49 : Nat) ∈ _ from by decide); exact do_append 8 Tryz.underlying77 ti_3 (by decide) rfl (by decide) rfl rfl ((((ow1L_2.ext Eb21).ne Es1 (fun h => nb2 _ h rfl)).ext E2).fr (show Fr (fun kq => kq = bm) _ _ from mG eu28) (fun k h1 => (fun h => (fun h => ne1L_2_51 _ h1 h) h))) (Src.blk hB49 rfl rfl) (by omega) (fun sA cA wA AP => ⟨⟨AP.fr, trivial⟩, ⟨sA, cA, rfl, AP.own, fun k hk => (AP.blk k hk).elim .inl (fun h => .inr (Nat.le_trans ((show Fr (fun kq => kq = bm) _ _ from mG eu28)).size h))⟩⟩)) (fun I50 v50 => ?_)
    refine mw_any rfl rfl (want rfl) (fun u29 eu29 fu29 => (do_mapEntryNew (k := vq.2) mv_154 rfl rfl ((((BL1_51.ext Eb21).ne Es1 (by omega)).ext E2).fr (show Fr (fun kq => ob so1_2 kq) _ _ from mG eu29) (fun h => (fun h => ne1L_2_51 _ h rfl) h)) (numF_no hin)).mono (fun v w' h => ⟨⟨h.1, trivial⟩, h.2⟩)) (fun I51 v51 => ?_)
    refine mw_any rfl rfl (want rfl) (fun u30 eu30 fu30 => by obtain ⟨n51, rfl, hS51⟩ := fu30 51 _ rfl (show (51 : Nat) ∈ _ from by decide); exact do_value (rn_extract rfl rfl) ⟨⟨Fr.refl no _, trivial⟩, ⟨n51, rfl, hS51⟩⟩) (fun I52 v52 => ?_)
    refine mw_eff (e := 1000000) rfl (want rfl) (fun u31 eu31 fu31 => by obtain ⟨n52, rfl, hS52⟩ := fu31 52 _ rfl (show (52 : Nat) ∈ _ from by decide); exact (do_entryStore rfl rfl rfl hS52 (numF_no hin)).mono (fun v w' h => ⟨⟨h.1.1, h.1.2⟩, h.2⟩)) (fun I1000000 v1000000 => ?_)
    refine mw_nil (fun w5 E3' H3 => ?_)
    have E3 := mG E3'
    have F9 := F8.new' E3 (fun kq => (fun h => h.elim (ge1L_2 _) (fun h => (fun h => by rw [h]; exact (.inl hZb51)) h)))
    have hz3 := E3.size
    obtain ⟨sq3, cq3, rfl, hO3, hI3⟩ := H3 50 _ rfl
    have ge3 : ∀ k, ob sq3 k → Z k ∨ w0.heap.size ≤ k := fun k hk => (hI3 k hk).elim (ge1L_2 k) (fun h => .inr (by omega))
    have ne3_50 : ∀ k, ob sq3 k → k ≠ b := fun k hk => (hI3 k hk).elim (ne1L_2_50 k) (fun h => by have := ((((BL1_50.ext Eb21).ne Es1 (by omega)).ext E2)).lt; omega)
    have ne3_51 : ∀ k, ob sq3 k → k ≠ bm := fun k hk => (hI3 k hk).elim (ne1L_2_51 k) (fun h => by have := ((((BL1_51.ext Eb21).ne Es1 (by omega)).ext E2)).lt; omega)
    have ne3_21 : ∀ k, ob sq3 k → k ≠ b21 := fun k hk => (hI3 k hk).elim (nb2 k) (fun h => by have := ((Bs1.ext E2)).lt; omega)
    have sp3_3 : ∀ k, ob sq3 k → ob so1_3 k → False := fun k hk h2 => (hI3 k hk).elim (fun h => (fun k h1 h2 => sp1L_3_2 k h2 h1) k h h2) (fun h => by have := ((((ow1L_3.ext Eb21).ne Es1 (fun h => nb1 _ h rfl)).ext E2)).lt h2; omega)
    have hE5_18 := H3 1000000 _ rfl
    (try dsimp only at hE5_18)
    refine lx_value (want rfl) (rn_nilCheck rfl) ?_
    refine lx_value (want rfl) (rn_fieldAddr fa_172_1 rfl) ?_
    refine lx_set (want rfl) sz_77 rfl (t_slice rfl) rfl rfl rfl ((((BL1_50.ext Eb21).ne Es1 (by omega)).ext E2).fr E3 (fun h => h.elim (fun h => ne1L_2_50 _ h rfl) (fun h => (fun h => absurd h (by omega)) h))) (Nat.le_of_ble_eq_true rfl) ?_
    intro w6 Es3 Bs3
    have F10 := F9.new' Es3 (fun k h => by have h : k = b := h; rw [h]; exact (.inl hZb50))
    have hzs3 := Es3.size
    refine lx_nil ?_
    refine wk_region ?_
    refine lx_value (want rfl) (mv_int rfl) ?_
    refine lx_value (want rfl) (rn_fieldAddr fa_36_1 rfl) ?_
    refine lx_set (want rfl) sz_3 rfl (t_int rfl) rfl rfl rfl (((Bs1.ext E2).fr E3 (fun h => h.elim (fun h => nb2 _ h rfl) (fun h => (fun h => absurd h (by omega)) h))).ne Es3 (by omega)) (Nat.le_of_ble_eq_true rfl) ?_
    intro w7 Es4 Bs4
    have F11 := F10.set Es4 (by omega)
    have hzs4 := Es4.size
    refine lx_nil ?_
    refine wk_region ?_
    refine lx_value (want rfl) (mv_slice ho1_3) ?_
    refine lx_value (want rfl) (rn_loadBlk ag_36 sz_36 rfl Bs4 rfl rfl) ?_
    refine lx_newS (want rfl) (rn_bslice (xs := [.tmp 58]) Tryz.underlying30 sz_36 ze_36 rfl (argsC (t_agg rfl) args0) (CL.cons rfl rfl CL.nil) rfl (Nat.le_of_ble_eq_true rfl)) ?_
    intro b23 w8 hb23 Eb23 B23 hlb23
    have F12 := F11.ext Eb23
    have hzb23 := Eb23.size
    have nb5 : ∀ k, ob so1_3 k → k ≠ b23 := fun k hk => by have := (ow1L_3).lt hk; omega
    have nb6 : ∀ k, ob sq3 k → k ≠ b23 := fun k hk => by have := (hO3).lt hk; omega
    refine lx_append 16 (want rfl) Tryz.underlying30 ti_36 (by decide) rfl (by decide) rfl rfl (((((((ow1L_3.ext Eb21).ne Es1 (fun h => nb1 _ h rfl)).ext E2).fr E3 (fun k h1 => (fun h => h.elim (fun h => sp1L_3_2 _ h1 h) (fun h => (fun h => ne1L_3_51 _ h1 h) h)))).ne Es3 (fun h => ne1L_3_50 _ h rfl)).ne Es4 (fun h => nb1 _ h rfl)).ext Eb23) ((Src.blk B23 rfl rfl)) (by omega) ?_
    intro sq4 cq4 w9 AP4
    have EA4 := AP4.fr
    have ow4 := AP4.own
    have ge4 : ∀ k, ob sq4 k → Z k ∨ w0.heap.size ≤ k := fun k hk => (AP4.blk k hk).elim (ge1L_3 k) (fun h => .inr (Nat.le_trans F12.size h))
    have ne4_50 : ∀ k, ob sq4 k → k ≠ b := fun k hk => (AP4.blk k hk).elim (ne1L_3_50 k) (fun h => by have := (((Bs3.ne Es4 (by omega)).ext Eb23)).lt; omega)
    have ne4_51 : ∀ k, ob sq4 k → k ≠ bm := fun k hk => (AP4.blk k hk).elim (ne1L_3_51 k) (fun h => by have := ((((hE5_18.ne Es3 (by omega)).ne Es4 (by omega)).ext Eb23)).lt; omega)
    have ne4_21 : ∀ k, ob sq4 k → k ≠ b21 := fun k hk => (AP4.blk k hk).elim (nb1 k) (fun h => by have := ((Bs4.ext Eb23)).lt; omega)
    have ne4_23 : ∀ k, ob sq4 k → k ≠ b23 := fun k hk => (AP4.blk k hk).elim (nb5 k) (fun h => by have := (B23).lt; omega)
    have sp4_2 : ∀ k, ob sq4 k → ob sq3 k → False := fun k hk h2 => (AP4.blk k hk).elim (fun h => (fun k h1 h2 => sp3_3 k h2 h1) k h h2) (fun h => by have := ((((hO3.ne Es3 (fun h => ne3_50 _ h rfl)).ne Es4 (fun h => ne3_21 _ h rfl)).ext Eb23)).lt h2; omega)
    have F13 := F12.new' EA4 ge1L_3
    have hzA4 := EA4.size
    have BA4_50 := ((Bs3.ne Es4 (by omega)).ext Eb23).fr EA4 (fun h => ne1L_3_50 _ h rfl)
    have BA4_51 := (((hE5_18.ne Es3 (by omega)).ne Es4 (by omega)).ext Eb23).fr EA4 (fun h => ne1L_3_51 _ h rfl)
    have BA4_21 := (Bs4.ext Eb23).fr EA4 (fun h => nb1 _ h rfl)
    have BA4_23 := B23.fr EA4 (fun h => nb5 _ h rfl)
    have oA4_2 := (((hO3.ne Es3 (fun h => ne3_50 _ h rfl)).ne Es4 (fun h => ne3_21 _ h rfl)).ext Eb23).fr EA4 (fun k h1 h2 => (fun k h1 h2 => sp3_3 k h2 h1) k h2 h1)
    have sr4_2 : ∀ k, ob sq3 k → ob sq4 k → False := fun k h1 h2 => sp4_2 k h2 h1
    refine lx_value (want rfl) (as_slice rfl) ?_
    refine lx_nil ?_
    refine wk_region ?_
    refine lx_value (want rfl) (rn_add hs1_11 rfl (by omega)) ?_
    refine lx_value (want rfl) (mv_int rfl) ?_
    refine lx_nil ?_
    exact ⟨rfl, ((((((((((((((((((((((((((((((((((((((((((((((((((((((((((((A1.up rfl _).up rfl _).up rfl _).up rfl _).none _).up rfl _).up rfl _).up rfl _).up rfl _).up rfl _).up rfl _).up rfl _).up rfl _).up rfl _).up rfl _).up rfl _).up rfl _).up rfl _).up rfl _).up rfl _).up rfl _).up rfl _).up rfl _).up rfl _).up rfl _).up rfl _).up rfl _).up rfl _).up rfl _).up rfl _).up rfl _).up rfl _).up rfl _).up rfl _).up rfl _).up rfl _).up rfl _).up rfl _).up rfl _).up rfl _).up rfl _).up rfl _).up rfl _).up rfl _).up rfl _).up rfl _).none _).up rfl _).up rfl _).none _).up rfl _).up rfl _).none _).up rfl _).up rfl _).up rfl _).up rfl _).up rfl _).up rfl _).up rfl _), Fr.between F0 F13 (by omega), _, (by omega), i + 1, sq4, cq4, sq3, cq3, rfl, rfl, (by first | exact BA4_50 | (rw [hm1]; first | exact BA4_50 | (rw [List.length_append]; exact BA4_50))), (by first | exact BA4_51 | (rw [hm1]; first | exact BA4_51 | exact MapB.of BA4_51 (numF_new (h0v h4) hin))), (by rw [hm2, List.length_append]; exact rfl), (by rw [hm2]; exact own_more ow4 rfl), ge4, ne4_50, ne4_51, (by rw [hm1]; first | exact oA4_2 | exact own_more oA4_2 (by rw [natC, hnum])), ge3, ne3_50, ne3_51, sp4_2, by have := (List.getElem?_eq_some_iff.1 hv).1; omega, (fun k hk => (AP4.blk k hk).elim (hs3 k) (fun h => by omega))⟩
  ·
   obtain ⟨hm1, hm2⟩ := meet_no hv h4
   refine lx_nil ?_
   refine wk_cond_f rfl ?_
   refine wk_skip ?_
   refine wk_region ?_
   refine lx_value (want rfl) (mv_slice ho1_3) ?_
   refine lx_value (want rfl) (rn_loadBlk ag_36 sz_36 rfl Bs1 rfl rfl) ?_
   refine lx_newS (want rfl) (rn_bslice (xs := [.tmp 58]) Tryz.underlying30 sz_36 ze_36 rfl (argsC (t_agg rfl) args0) (CL.cons rfl rfl CL.nil) rfl (Nat.le_of_ble_eq_true rfl)) ?_
   intro b24 w4 hb24 Eb24 B24 hlb24
   have F14 := F3.ext Eb24
   have hzb24 := Eb24.size
   have nb7 : ∀ k, ob so1_3 k → k ≠ b24 := fun k hk => by have := (ow1L_3).lt hk; omega
   have nb8 : ∀ k, ob so1_2 k → k ≠ b24 := fun k hk => by have := (ow1L_2).lt hk; omega
   refine lx_append 16 (want rfl) Tryz.underlying30 ti_36 (by decide) rfl (by decide) rfl rfl (((ow1L_3.ext Eb21).ne Es1 (fun h => nb1 _ h rfl)).ext Eb24) ((Src.blk B24 rfl rfl)) (by omega) ?_
   intro sq5 cq5 w5 AP5
   have EA5 := AP5.fr
   have ow5 := AP5.own
   have ge5 : ∀ k, ob sq5 k → Z k ∨ w0.heap.size ≤ k := fun k hk => (AP5.blk k hk).elim (ge1L_3 k) (fun h => .inr (Nat.le_trans F14.size h))
   have ne5_50 : ∀ k, ob sq5 k → k ≠ b := fun k hk => (AP5.blk k hk).elim (ne1L_3_50 k) (fun h => by have := ((((BL1_50.ext Eb21).ne Es1 (by omega)).ext Eb24)).lt; omega)
   have ne5_51 : ∀ k, ob sq5 k → k ≠ bm := fun k hk => (AP5.blk k hk).elim (ne1L_3_51 k) (fun h => by have := ((((BL1_51.ext Eb21).ne Es1 (by omega)).ext Eb24)).lt; omega)
   have ne5_21 : ∀ k, ob sq5 k → k ≠ b21 := fun k hk => (AP5.blk k hk).elim (nb1 k) (fun h => by have := ((Bs1.ext Eb24)).lt; omega)
   have ne5_24 : ∀ k, ob sq5 k → k ≠ b24 := fun k hk => (AP5.blk k hk).elim (nb7 k) (fun h => by have := (B24).lt; omega)
   have sp5_2 : ∀ k, ob sq5 k → ob so1_2 k → False := fun k hk h2 => (AP5.blk k hk).elim (fun h => sp1L_3_2 k h h2) (fun h => by have := ((((ow1L_2.ext Eb21).ne Es1 (fun h => nb2 _ h rfl)).ext Eb24)).lt h2; omega)
   have F15 := F14.new' EA5 ge1L_3
   have hzA5 := EA5.size
   have BA5_50 := (((BL1_50.ext Eb21).ne Es1 (by omega)).ext Eb24).fr EA5 (fun h => ne1L_3_50 _ h rfl)
   have BA5_51 := (((BL1_51.ext Eb21).ne Es1 (by omega)).ext Eb24).fr EA5 (fun h => ne1L_3_51 _ h rfl)
   have BA5_21 := (Bs1.ext Eb24).fr EA5 (fun h => nb1 _ h rfl)
   have BA5_24 := B24.fr EA5 (fun h => nb7 _ h rfl)
   have oA5_2 := (((ow1L_2.ext Eb21).ne Es1 (fun h => nb2 _ h rfl)).ext Eb24).fr EA5 (fun k h1 h2 => sp1L_3_2 k h2 h1)
   have sr5_2 : ∀ k, ob so1_2 k → ob sq5 k → False := fun k h1 h2 => sp5_2 k h2 h1
   refine lx_value (want rfl) (as_slice rfl) ?_
   refine lx_nil ?_
   refine wk_region ?_
   refine lx_value (want rfl) (rn_add hs1_11 rfl (by omega)) ?_
   refine lx_value (want rfl) (mv_int rfl) ?_
   refine lx_nil ?_
   exact ⟨rfl, (((((((((((((((A1.up rfl _).up rfl _).up rfl _).up rfl _).none _).up rfl _).up rfl _).up rfl _).up rfl _).up rfl _).up rfl _).up rfl _).up rfl _).up rfl _).up rfl _), Fr.between F0 F15 (by omega), _, (by omega), i + 1, sq5, cq5, so1_2, co1_2, rfl, rfl, (by first | exact BA5_50 | (rw [hm1]; first | exact BA5_50 | (rw [List.length_append]; exact BA5_50))), (by first | exact BA5_51 | (rw [hm1]; first | exact BA5_51 | exact MapB.of BA5_51 (numF_new (h0v h4) hin))), (by rw [hm2, List.length_append]; exact rfl), (by rw [hm2]; exact own_more ow5 rfl), ge5, ne5_50, ne5_51, (by rw [hm1]; first | exact oA5_2 | exact own_more oA5_2 (by rw [natC, hnum])), ge1L_2, ne1L_2_50, ne1L_2_51, sp5_2, by have := (List.getElem?_eq_some_iff.1 hv).1; omega, (fun k hk => (AP5.blk k hk).elim (hs3 k) (fun h => by omega))⟩
 ·
  refine lx_nil ?_
  refine wk_seq ?_
  refine wk_cond_f rfl ?_
  refine wk_exit ?_
  refine wk_seq ?_
  refine wk_region ?_
  refine lx_value (want rfl) (mv_slice ho1_3) ?_
  refine lx_value (want rfl) (as_slice rfl) ?_
  refine lx_nil ?_
  refine wk_ret ?_
  refine retR1 Tryz.results120 (.tmp (t_slice rfl)) F1 ?_
  exact outT_of (hi := hlt) rfl ow1L_3 ge1L_3 BL1_50 BL1_51 ow1L_2 hbm ne1L_2_50 ne1L_2_51 (.inl hZb50) (.inl hZb51) ge1L_2 ne1L_3_50 ne1L_3_51 sp1L_3_2 hs3

theorem sametold_ct (a b : List Tl) (sa sb : Option Addr) (ca cb : Nat) (Fa Fb : Nat → Prop) (w0 : World) (ha : TlS Fa w0 sa a) (hb : TlS Fb w0 sb b) (hbb : b.length ≤ 1048576) :
  CT Tryz.prog 26 [.slice sa a.length ca, .slice sb b.length cb] w0 no (fun v _ => v = .bool (decide (a = b))) := by
 have F0 := Fr.refl no w0
 refine ct_body Tryz.func26 rfl Tryz.ntmps26 (Nat.le_of_ble_eq_true rfl) ?_
 refine wk_seq ?_
 refine wk_region ?_
 refine lx_value (want rfl) (as_bool rfl) ?_
 refine lx_nil ?_
 refine wk_seq ?_
 refine wk_seq ?_
 refine wk_region ?_
 refine lx_value (want rfl) (mv_slice rfl) ?_
 refine lx_value (want rfl) (rn_len Tryz.underlying31 rfl) ?_
 refine lx_value (want rfl) (mv_slice rfl) ?_
 refine lx_value (want rfl) (rn_len Tryz.underlying31 rfl) ?_
 refine lx_value (want rfl) (rn_neq rfl rfl) ?_
 refine lx_dec (fun hl => ?_) (fun hl => ?_)
 ·
  refine lx_nil ?_
  refine wk_cond_t rfl ?_
  refine wk_seq ?_
  refine wk_region ?_
  refine lx_value (want rfl) (as_bool rfl) ?_
  refine lx_nil ?_
  refine wk_ret ?_
  refine retR1 Tryz.results26 (.tmp (t_bool rfl)) F0 ?_
  exact no_dec (len_ne hl)
 ·
  refine lx_nil ?_
  refine wk_cond_f rfl ?_
  refine wk_skip ?_
  refine wk_seq ?_
  refine wk_seq ?_
  refine wk_region ?_
  refine lx_value (want rfl) (as_int rfl) ?_
  refine lx_nil ?_
  refine wk_block ?_
  refine wk_loopA [4, 5, 11, 12, 13, 14, 15, 16, 17, 18, 19, 20, 21, 22, 23, 24, 25] no (fun nM ρ w => ∃ (i : Nat), nM = a.length - i ∧ ρ 5 = .int .i64 i ∧ (i ≤ a.length) ∧ (a.take i = b.take i)) _ ⟨0, rfl, rfl, by omega, rfl⟩ ?_
  rintro n1 ρ1 w1 A1 EL1 ⟨i, rfl, hs1_5, hi, hq⟩
  have F1 := F0.ext EL1
  have hzL1 := EL1.size
  refine wk_seq ?_
  refine wk_seq ?_
  refine wk_region ?_
  refine lx_value (want rfl) (mv_int hs1_5) ?_
  refine lx_value (want rfl) (mv_slice (A1.at 0 rfl rfl)) ?_
  refine lx_value (want rfl) (rn_len Tryz.underlying31 rfl) ?_
  refine lx_value (want rfl) (rn_lss rfl rfl) ?_
  refine lx_dec (fun hlt => ?_) (fun hlt => ?_)
  ·
   obtain ⟨x, hx⟩ := getx hlt
   obtain ⟨y, hy⟩ : ∃ y, b[i]? = some y := getx (by omega)
   obtain ⟨bx, ox, rfl, _, hcx⟩ := ha i x hx
   obtain ⟨by_, oy, rfl, _, hcy⟩ := hb i y hy
   refine lx_nil ?_
   refine wk_cond_t rfl ?_
   refine wk_skip ?_
   refine wk_seq ?_
   refine wk_block ?_
   refine wk_seq ?_
   refine wk_mix 8 (fun _ => .none) (by kernel_rfl) (by kernel_rfl) (fun kS G hk => by cases hk) (fun kS s y G hk => by cases hk) ?_
   simp only [List.take_succ_cons, List.take_zero, List.take_nil, List.drop_succ_cons, List.drop_zero, List.drop_nil]
   refine mx_calm rfl (want rfl) (fun u1 eu1 fu1 => mv_slice (A1.at 0 rfl rfl)) ?_
   refine mx_calm rfl (want rfl) (fun u2 eu2 fu2 => mv_int hs1_5) ?_
   refine mx_calm rfl (want rfl) (fun u3 eu3 fu3 => rn_index _ Tryz.underlying31 sz_106 rfl rfl rfl (by omega)) ?_
   refine mx_calm rfl (want rfl) (fun u4 eu4 fu4 => rn_load3 ag_106 sz_106 rfl ((F1.ext ((ext_drawn _).trans' eu4)).cell (fun h => h) (hcx 0 _ rfl)) ((F1.ext ((ext_drawn _).trans' eu4)).cell (fun h => h) (hcx 1 _ rfl)) ((F1.ext ((ext_drawn _).trans' eu4)).cell (fun h => h) (hcx 2 _ rfl))) ?_
   refine mx_calm rfl (want rfl) (fun u5 eu5 fu5 => mv_slice (A1.at 1 rfl rfl)) ?_
   refine mx_calm rfl (want rfl) (fun u6 eu6 fu6 => mv_int hs1_5) ?_
   refine mx_calm rfl (want rfl) (fun u7 eu7 fu7 => rn_index _ Tryz.underlying31 sz_106 rfl rfl rfl (by omega)) ?_
   refine mx_calm rfl (want rfl) (fun u8 eu8 fu8 => rn_load3 ag_106 sz_106 rfl ((F1.ext ((ext_drawn _).trans' eu8)).cell (fun h => h) (hcy 0 _ rfl)) ((F1.ext ((ext_drawn _).trans' eu8)).cell (fun h => h) (hcy 1 _ rfl)) ((F1.ext ((ext_drawn _).trans' eu8)).cell (fun h => h) (hcy 2 _ rfl))) ?_
   refine mx_nil (fun w2 E1' H1 HS => ?_)
   have E1 := (ext_drawn _).trans' E1'
   have F2 := F1.ext E1
   have hz1 := E1.size
   refine lx_value (want rfl) (rn_cmpS (t_agg rfl) (t_agg rfl) (gneq_106 _ _ _ _ _ _) (neq_106 _ _ _ _ _ _)) ?_
   refine lx_dec (fun hne => ?_) (fun hne => ?_)
   ·
    refine lx_nil ?_
    refine wk_cond_t rfl ?_
    refine wk_seq ?_
    refine wk_region ?_
    refine lx_value (want rfl) (as_bool rfl) ?_
    refine lx_nil ?_
    refine wk_ret ?_
    refine retR1 Tryz.results26 (.tmp (t_bool rfl)) F2 ?_
    exact no_dec (eqs_ne hx hy (tl_ne hne))
   ·
    refine lx_nil ?_
    refine wk_cond_f rfl ?_
    refine wk_skip ?_
    refine wk_region ?_
    refine lx_value (want rfl) (mv_int hs1_5) ?_
    refine lx_value (want rfl) (rn_add rfl rfl (by omega)) ?_
    refine lx_value (want rfl) (as_int rfl) ?_
    refine lx_nil ?_
    exact ⟨rfl, ((((((((((((((((A1.up rfl _).up rfl _).up rfl _).up rfl _).up rfl _).up rfl _).up rfl _).up rfl _).up rfl _).up rfl _).up rfl _).up rfl _).up rfl _).up rfl _).up rfl _).up rfl _), (Fr.ext EL1 E1), _, (by omega), i + 1, rfl, rfl, by omega, (eqs_step hq hx hy (tl_eq hne))⟩
  ·
   refine lx_nil ?_
   refine wk_cond_f rfl ?_
   refine wk_exit ?_
   refine wk_seq ?_
   refine wk_region ?_
   refine lx_value (want rfl) (as_bool rfl) ?_
   refine lx_nil ?_
   refine wk_ret ?_
   refine retR1 Tryz.results26 (.tmp (t_bool rfl)) F1 ?_
   exact yes_dec (eqs_end hq (by omega) hlt)

theorem equalv_ct (a b : List Vl) (sa sb : Option Addr) (ca cb : Nat) (Fa Fb : Nat → Prop) (w0 : World) (ha : VlS Fa w0 sa a) (hb : VlS Fb w0 sb b) (hbb : b.length ≤ 1048576) :
  CT Tryz.prog 122 [.slice sa a.length ca, .slice sb b.length cb] w0 no (fun v _ => v = .bool (decide (a = b))) := by
 have F0 := Fr.refl no w0
 refine ct_body Tryz.func122 rfl Tryz.ntmps122 (Nat.le_of_ble_eq_true rfl) ?_
 refine wk_seq ?_
 refine wk_region ?_
 refine lx_value (want rfl) (as_bool rfl) ?_
 refine lx_nil ?_
 refine wk_seq ?_
 refine wk_seq ?_
 refine wk_region ?_
 refine lx_value (want rfl) (mv_slice rfl) ?_
 refine lx_value (want rfl) (rn_len Tryz.underlying30 rfl) ?_
 refine lx_value (want rfl) (mv_slice rfl) ?_
 refine lx_value (want rfl) (rn_len Tryz.underlying30 rfl) ?_
 refine lx_value (want rfl) (rn_neq rfl rfl) ?_
 refine lx_dec (fun hl => ?_) (fun hl => ?_)
 ·
  refine lx_nil ?_
  refine wk_cond_t rfl ?_
  refine wk_seq ?_
  refine wk_region ?_
  refine lx_value (want rfl) (as_bool rfl) ?_
  refine lx_nil ?_
  refine wk_ret ?_
  refine retR1 Tryz.results122 (.tmp (t_bool rfl)) F0 ?_
  exact no_dec (len_ne hl)
 ·
  refine lx_nil ?_
  refine wk_cond_f rfl ?_
  refine wk_skip ?_
  refine wk_seq ?_
  refine wk_seq ?_
  refine wk_region ?_
  refine lx_value (want rfl) (mv_slice rfl) ?_
  refine lx_value (want rfl) (rn_len Tryz.underlying30 rfl) ?_
  refine lx_value (want rfl) (mv_int rfl) ?_
  refine lx_nil ?_
  refine wk_block ?_
  refine wk_loopA [4, 5, 13, 14, 15, 16, 17, 18, 19, 20, 21, 22, 23, 24, 25] no (fun nM ρ w => ∃ (i : Nat), nM = a.length - i ∧ ρ 13 = .int .i64 i ∧ (i ≤ a.length) ∧ (a.take i = b.take i)) _ ⟨0, rfl, rfl, by omega, rfl⟩ ?_
  rintro n1 ρ1 w1 A1 EL1 ⟨i, rfl, hs1_13, hi, hq⟩
  have F1 := F0.ext EL1
  have hzL1 := EL1.size
  refine wk_seq ?_
  refine wk_region ?_
  refine lx_value (want rfl) (rn_lss hs1_13 (A1.at 12 rfl rfl)) ?_
  refine lx_dec (fun hlt => ?_) (fun hlt => ?_)
  ·
   obtain ⟨x, hx⟩ := getx hlt
   obtain ⟨y, hy⟩ : ∃ y, b[i]? = some y := getx (by omega)
   obtain ⟨bx, ox, rfl, _, hcx⟩ := ha i x hx
   obtain ⟨by_, oy, rfl, _, hcy⟩ := hb i y hy
   refine lx_nil ?_
   refine wk_seq ?_
   refine wk_cond_t rfl ?_
   refine wk_skip ?_
   refine wk_seq ?_
   refine wk_block ?_
   refine wk_seq ?_
   refine wk_region ?_
   refine lx_value (want rfl) (mv_int hs1_13) ?_
   refine lx_value (want rfl) (as_int rfl) ?_
   refine lx_nil ?_
   refine wk_seq ?_
   refine wk_mix 8 (fun _ => .none) (by kernel_rfl) (by kernel_rfl) (fun kS G hk => by cases hk) (fun kS s y G hk => by cases hk) ?_
   simp only [List.take_succ_cons, List.take_zero, List.take_nil, List.drop_succ_cons, List.drop_zero, List.drop_nil]
   refine mx_calm rfl (want rfl) (fun u1 eu1 fu1 => mv_slice (A1.at 0 rfl rfl)) ?_
   refine mx_calm rfl (want rfl) (fun u2 eu2 fu2 => mv_int rfl) ?_
   refine mx_calm rfl (want rfl) (fun u3 eu3 fu3 => rn_index _ Tryz.underlying30 sz_36 rfl rfl rfl (by omega)) ?_
   refine mx_calm rfl (want rfl) (fun u4 eu4 fu4 => rn_load2 ag_36 sz_36 rfl ((F1.ext ((ext_drawn _).trans' eu4)).cell (fun h => h) (hcx 0 _ rfl)) ((F1.ext ((ext_drawn _).trans' eu4)).cell (fun h => h) (hcx 1 _ rfl))) ?_
   refine mx_calm rfl (want rfl) (fun u5 eu5 fu5 => mv_slice (A1.at 1 rfl rfl)) ?_
   refine mx_calm rfl (want rfl) (fun u6 eu6 fu6 => mv_int rfl) ?_
   refine mx_calm rfl (want rfl) (fun u7 eu7 fu7 => rn_index _ Tryz.underlying30 sz_36 rfl rfl rfl (by omega)) ?_
   refine mx_calm rfl (want rfl) (fun u8 eu8 fu8 => rn_load2 ag_36 sz_36 rfl ((F1.ext ((ext_drawn _).trans' eu8)).cell (fun h => h) (hcy 0 _ rfl)) ((F1.ext ((ext_drawn _).trans' eu8)).cell (fun h => h) (hcy 1 _ rfl))) ?_
   refine mx_nil (fun w2 E1' H1 HS => ?_)
   have E1 := (ext_drawn _).trans' E1'
   have F2 := F1.ext E1
   have hz1 := E1.size
   refine lx_value (want rfl) (rn_cmpS (t_agg rfl) (t_agg rfl) (gneq_36 _ _ _ _) (neq_36 _ _ _ _)) ?_
   refine lx_dec (fun hne => ?_) (fun hne => ?_)
   ·
    refine lx_nil ?_
    refine wk_cond_t rfl ?_
    refine wk_seq ?_
    refine wk_region ?_
    refine lx_value (want rfl) (as_bool rfl) ?_
    refine lx_nil ?_
    refine wk_ret ?_
    refine retR1 Tryz.results122 (.tmp (t_bool rfl)) F2 ?_
    exact no_dec (eqs_ne hx hy (vl_ne hne))
   ·
    refine lx_nil ?_
    refine wk_cond_f rfl ?_
    refine wk_skip ?_
    refine wk_region ?_
    refine lx_value (want rfl) (rn_add hs1_13 rfl (by omega)) ?_
    refine lx_value (want rfl) (mv_int rfl) ?_
    refine lx_nil ?_
    exact ⟨rfl, ((((((((((((((A1.up rfl _).up rfl _).up rfl _).up rfl _).up rfl _).up rfl _).up rfl _).up rfl _).up rfl _).up rfl _).up rfl _).up rfl _).up rfl _).up rfl _), (Fr.ext EL1 E1), _, (by omega), i + 1, rfl, rfl, by omega, (eqs_step hq hx hy (vl_eq hne))⟩
  ·
   refine lx_nil ?_
   refine wk_seq ?_
   refine wk_cond_f rfl ?_
   refine wk_exit ?_
   refine wk_seq ?_
   refine wk_region ?_
   refine lx_value (want rfl) (as_bool rfl) ?_
   refine lx_nil ?_
   refine wk_ret ?_
   refine retR1 Tryz.results122 (.tmp (t_bool rfl)) F1 ?_
   exact yes_dec (eqs_end hq (by omega) hlt)

theorem samevalues_ct (a b : List Vl) (sa sb : Option Addr) (ca cb : Nat) (Fa Fb : Nat → Prop) (w0 : World) (ha : VlS Fa w0 sa a) (hb : VlS Fb w0 sb b) (hbb : b.length ≤ 1048576) :
  CT Tryz.prog 25 [.slice sa a.length ca, .slice sb b.length cb] w0 no (fun v _ => v = .bool (decide (a = b))) := by
 have F0 := Fr.refl no w0
 refine ct_body Tryz.func25 rfl Tryz.ntmps25 (Nat.le_of_ble_eq_true rfl) ?_
 refine wk_seq ?_
 refine wk_region ?_
 refine lx_value (want rfl) (as_bool rfl) ?_
 refine lx_nil ?_
 refine wk_seq ?_
 refine wk_seq ?_
 refine wk_region ?_
 refine lx_value (want rfl) (mv_slice rfl) ?_
 refine lx_value (want rfl) (rn_len Tryz.underlying30 rfl) ?_
 refine lx_value (want rfl) (mv_slice rfl) ?_
 refine lx_value (want rfl) (rn_len Tryz.underlying30 rfl) ?_
 refine lx_value (want rfl) (rn_neq rfl rfl) ?_
 refine lx_dec (fun hl => ?_) (fun hl => ?_)
 ·
  refine lx_nil ?_
  refine wk_cond_t rfl ?_
  refine wk_seq ?_
  refine wk_region ?_
  refine lx_value (want rfl) (as_bool rfl) ?_
  refine lx_nil ?_
  refine wk_ret ?_
  refine retR1 Tryz.results25 (.tmp (t_bool rfl)) F0 ?_
  exact no_dec (len_ne hl)
 ·
  refine lx_nil ?_
  refine wk_cond_f rfl ?_
  refine wk_skip ?_
  refine wk_seq ?_
  refine wk_seq ?_
  refine wk_region ?_
  refine lx_value (want rfl) (as_int rfl) ?_
  refine lx_nil ?_
  refine wk_block ?_
  refine wk_loopA [4, 5, 11, 12, 13, 14, 15, 16, 17, 18, 19, 20, 21, 22, 23, 24, 25] no (fun nM ρ w => ∃ (i : Nat), nM = a.length - i ∧ ρ 5 = .int .i64 i ∧ (i ≤ a.length) ∧ (a.take i = b.take i)) _ ⟨0, rfl, rfl, by omega, rfl⟩ ?_
  rintro n1 ρ1 w1 A1 EL1 ⟨i, rfl, hs1_5, hi, hq⟩
  have F1 := F0.ext EL1
  have hzL1 := EL1.size
  refine wk_seq ?_
  refine wk_seq ?_
  refine wk_region ?_
  refine lx_value (want rfl) (mv_int hs1_5) ?_
  refine lx_value (want rfl) (mv_slice (A1.at 0 rfl rfl)) ?_
  refine lx_value (want rfl) (rn_len Tryz.underlying30 rfl) ?_
  refine lx_value (want rfl) (rn_lss rfl rfl) ?_
  refine lx_dec (fun hlt => ?_) (fun hlt => ?_)
  ·
   obtain ⟨x, hx⟩ := getx hlt
   obtain ⟨y, hy⟩ : ∃ y, b[i]? = some y := getx (by omega)
   obtain ⟨bx, ox, rfl, _, hcx⟩ := ha i x hx
   obtain ⟨by_, oy, rfl, _, hcy⟩ := hb i y hy
   refine lx_nil ?_
   refine wk_cond_t rfl ?_
   refine wk_skip ?_
   refine wk_seq ?_
   refine wk_block ?_
   refine wk_seq ?_
   refine wk_mix 8 (fun _ => .none) (by kernel_rfl) (by kernel_rfl) (fun kS G hk => by cases hk) (fun kS s y G hk => by cases hk) ?_
   simp only [List.take_succ_cons, List.take_zero, List.take_nil, List.drop_succ_cons, List.drop_zero, List.drop_nil]
   refine mx_calm rfl (want rfl) (fun u1 eu1 fu1 => mv_slice (A1.at 0 rfl rfl)) ?_
   refine mx_calm rfl (want rfl) (fun u2 eu2 fu2 => mv_int hs1_5) ?_
   refine mx_calm rfl (want rfl) (fun u3 eu3 fu3 => rn_index _ Tryz.underlying30 sz_36 rfl rfl rfl (by omega)) ?_
   refine mx_calm rfl (want rfl) (fun u4 eu4 fu4 => rn_load2 ag_36 sz_36 rfl ((F1.ext ((ext_drawn _).trans' eu4)).cell (fun h => h) (hcx 0 _ rfl)) ((F1.ext ((ext_drawn _).trans' eu4)).cell (fun h => h) (hcx 1 _ rfl))) ?_
   refine mx_calm rfl (want rfl) (fun u5 eu5 fu5 => mv_slice (A1.at 1 rfl rfl)) ?_
   refine mx_calm rfl (want rfl) (fun u6 eu6 fu6 => mv_int hs1_5) ?_
   refine mx_calm rfl (want rfl) (fun u7 eu7 fu7 => rn_index _ Tryz.underlying30 sz_36 rfl rfl rfl (by omega)) ?_
   refine mx_calm rfl (want rfl) (fun u8 eu8 fu8 => rn_load2 ag_36 sz_36 rfl ((F1.ext ((ext_drawn _).trans' eu8)).cell (fun h => h) (hcy 0 _ rfl)) ((F1.ext ((ext_drawn _).trans' eu8)).cell (fun h => h) (hcy 1 _ rfl))) ?_
   refine mx_nil (fun w2 E1' H1 HS => ?_)
   have E1 := (ext_drawn _).trans' E1'
   have F2 := F1.ext E1
   have hz1 := E1.size
   refine lx_value (want rfl) (rn_cmpS (t_agg rfl) (t_agg rfl) (gneq_36 _ _ _ _) (neq_36 _ _ _ _)) ?_
   refine lx_dec (fun hne => ?_) (fun hne => ?_)
   ·
    refine lx_nil ?_
    refine wk_cond_t rfl ?_
    refine wk_seq ?_
    refine wk_region ?_
    refine lx_value (want rfl) (as_bool rfl) ?_
    refine lx_nil ?_
    refine wk_ret ?_
    refine retR1 Tryz.results25 (.tmp (t_bool rfl)) F2 ?_
    exact no_dec (eqs_ne hx hy (vl_ne hne))
   ·
    refine lx_nil ?_
    refine wk_cond_f rfl ?_
    refine wk_skip ?_
    refine wk_region ?_
    refine lx_value (want rfl) (mv_int hs1_5) ?_
    refine lx_value (want rfl) (rn_add rfl rfl (by omega)) ?_
    refine lx_value (want rfl) (as_int rfl) ?_
    refine lx_nil ?_
    exact ⟨rfl, ((((((((((((((((A1.up rfl _).up rfl _).up rfl _).up rfl _).up rfl _).up rfl _).up rfl _).up rfl _).up rfl _).up rfl _).up rfl _).up rfl _).up rfl _).up rfl _).up rfl _).up rfl _), (Fr.ext EL1 E1), _, (by omega), i + 1, rfl, rfl, by omega, (eqs_step hq hx hy (vl_eq hne))⟩
  ·
   refine lx_nil ?_
   refine wk_cond_f rfl ?_
   refine wk_exit ?_
   refine wk_seq ?_
   refine wk_region ?_
   refine lx_value (want rfl) (as_bool rfl) ?_
   refine lx_nil ?_
   refine wk_ret ?_
   refine retR1 Tryz.results25 (.tmp (t_bool rfl)) F1 ?_
   exact yes_dec (eqs_end hq (by omega) hlt)

set_option maxHeartbeats 2000000 in
theorem operations_ct (w0 : World) :
  CT Tryz.prog 82 [] w0 no (fun v w => ∃ b bI bE bN, v = .map (some b) ∧ MapV w b kS (opF bI bE bN) ∧ Blk w bI ((kindC 0).map (Value.int .u8)) 5 ∧ Blk w bE ((kindC 8).map (Value.int .u8)) 5 ∧ Blk w bN ((kindC 9).map (Value.int .u8)) 5) := by
 have F0 := Fr.refl no w0
 refine ct_body Tryz.func82 rfl Tryz.ntmps82 (Nat.le_of_ble_eq_true rfl) ?_
 refine wk_seq ?_
 refine wk_region ?_
 refine lx_value (want rfl) (as_map rfl) ?_
 refine lx_nil ?_
 refine wk_seq ?_
 refine wk_region ?_
 refine lx_newS (want rfl) (rn_bslice (xs := [_]) Tryz.underlying123 sz_5 ze_5 rfl (argsC (t_int rfl) args0) (CL.cons rfl rfl CL.nil) rfl (Nat.le_of_ble_eq_true rfl)) ?_
 intro b1 w1 hb1 Eb1 B1 hlb1
 have F1 := F0.ext Eb1
 have hzb1 := Eb1.size
 refine lx_value (want rfl) (as_slice rfl) ?_
 refine lx_nil ?_
 refine wk_seq ?_
 refine wk_region ?_
 refine lx_makeMapB kS (want rfl) run_makeMap0 ?_
 intro b2 w2 hb2 Eb2 B2
 have F2 := F1.ext Eb2
 have hzb2 := Eb2.size
 have hlb2 := B2.lt
 have hMV := MapB.v B2
 refine lx_value (want rfl) (mv_slice rfl) ?_
 refine lx_value (want rfl) (rn_build3 (t_int rfl) (t_slice rfl) rfl (fun w => bd_126_0_1_2 _ _ _ _ _ _ _ w)) ?_
 refine lx_insV (want rfl) mv_128 rfl rfl (t_agg rfl) hMV ?_
 intro w3 Em1 HMEm1
 have F3 := F2.set Em1 (by omega)
 have hzm1 := Em1.size
 refine lx_value (want rfl) (mv_slice rfl) ?_
 refine lx_value (want rfl) (rn_build3 (t_int rfl) (t_slice rfl) rfl (fun w => bd_126_0_1_2 _ _ _ _ _ _ _ w)) ?_
 refine lx_insV (want rfl) mv_128 rfl rfl (t_agg rfl) HMEm1 ?_
 intro w4 Em2 HMEm2
 have F4 := F3.set Em2 (by omega)
 have hzm2 := Em2.size
 refine lx_value (want rfl) (mv_slice rfl) ?_
 refine lx_value (want rfl) (rn_build3 (t_int rfl) (t_slice rfl) rfl (fun w => bd_126_0_1_2 _ _ _ _ _ _ _ w)) ?_
 refine lx_insV (want rfl) mv_128 rfl rfl (t_agg rfl) HMEm2 ?_
 intro w5 Em3 HMEm3
 have F5 := F4.set Em3 (by omega)
 have hzm3 := Em3.size
 refine lx_value (want rfl) (mv_slice rfl) ?_
 refine lx_value (want rfl) (rn_build3 (t_int rfl) (t_slice rfl) rfl (fun w => bd_126_0_1_2 _ _ _ _ _ _ _ w)) ?_
 refine lx_insV (want rfl) mv_128 rfl rfl (t_agg rfl) HMEm3 ?_
 intro w6 Em4 HMEm4
 have F6 := F5.set Em4 (by omega)
 have hzm4 := Em4.size
 refine lx_value (want rfl) (mv_slice rfl) ?_
 refine lx_value (want rfl) (rn_build3 (t_int rfl) (t_slice rfl) rfl (fun w => bd_126_0_1_2 _ _ _ _ _ _ _ w)) ?_
 refine lx_insV (want rfl) mv_128 rfl rfl (t_agg rfl) HMEm4 ?_
 intro w7 Em5 HMEm5
 have F7 := F6.set Em5 (by omega)
 have hzm5 := Em5.size
 refine lx_value (want rfl) (mv_slice rfl) ?_
 refine lx_value (want rfl) (rn_build3 (t_int rfl) (t_slice rfl) rfl (fun w => bd_126_0_1_2 _ _ _ _ _ _ _ w)) ?_
 refine lx_insV (want rfl) mv_128 rfl rfl (t_agg rfl) HMEm5 ?_
 intro w8 Em6 HMEm6
 have F8 := F7.set Em6 (by omega)
 have hzm6 := Em6.size
 refine lx_value (want rfl) (mv_slice rfl) ?_
 refine lx_value (want rfl) (rn_build3 (t_int rfl) (t_slice rfl) rfl (fun w => bd_126_0_1_2 _ _ _ _ _ _ _ w)) ?_
 refine lx_insV (want rfl) mv_128 rfl rfl (t_agg rfl) HMEm6 ?_
 intro w9 Em7 HMEm7
 have F9 := F8.set Em7 (by omega)
 have hzm7 := Em7.size
 refine lx_value (want rfl) (mv_slice rfl) ?_
 refine lx_value (want rfl) (rn_build3 (t_int rfl) (t_slice rfl) rfl (fun w => bd_126_0_1_2 _ _ _ _ _ _ _ w)) ?_
 refine lx_insV (want rfl) mv_128 rfl rfl (t_agg rfl) HMEm7 ?_
 intro w10 Em8 HMEm8
 have F10 := F9.set Em8 (by omega)
 have hzm8 := Em8.size
 refine lx_newS (want rfl) (rn_bslice (xs := [_, _]) Tryz.underlying123 sz_5 ze_5 rfl (argsC (t_int rfl) (argsC (t_int rfl) args0)) (CL.cons rfl rfl (CL.cons rfl rfl CL.nil)) rfl (Nat.le_of_ble_eq_true rfl)) ?_
 intro b3 w11 hb3 Eb3 B3 hlb3
 have F11 := F10.ext Eb3
 have hzb3 := Eb3.size
 refine lx_value (want rfl) (rn_build3 (t_int rfl) (t_slice rfl) rfl (fun w => bd_126_0_1_2 _ _ _ _ _ _ _ w)) ?_
 refine lx_insV (want rfl) mv_128 rfl rfl (t_agg rfl) (HMEm8.ext Eb3) ?_
 intro w12 Em9 HMEm9
 have F12 := F11.set Em9 (by omega)
 have hzm9 := Em9.size
 refine lx_newS (want rfl) (rn_bslice (xs := [_]) Tryz.underlying123 sz_5 ze_5 rfl (argsC (t_int rfl) args0) (CL.cons rfl rfl CL.nil) rfl (Nat.le_of_ble_eq_true rfl)) ?_
 intro b4 w13 hb4 Eb4 B4 hlb4
 have F13 := F12.ext Eb4
 have hzb4 := Eb4.size
 refine lx_value (want rfl) (rn_build3 (t_int rfl) (t_slice rfl) rfl (fun w => bd_126_0_1_2 _ _ _ _ _ _ _ w)) ?_
 refine lx_insV (want rfl) mv_128 rfl rfl (t_agg rfl) (HMEm9.ext Eb4) ?_
 intro w14 Em10 HMEm10
 have F14 := F13.set Em10 (by omega)
 have hzm10 := Em10.size
 refine lx_value (want rfl) (mv_map rfl) ?_
 refine lx_value (want rfl) (as_map rfl) ?_
 refine lx_nil ?_
 refine wk_ret ?_
 refine retR1 Tryz.results82 (.tmp (t_map rfl)) F14 ?_
 exact ⟨_, _, _, _, rfl, MapV.of HMEm10 (fun nm => map_op (bI := b1) (bE := b3) (bN := b4) nm), (((((((((((((B1.ext Eb2).ne Em1 (by omega)).ne Em2 (by omega)).ne Em3 (by omega)).ne Em4 (by omega)).ne Em5 (by omega)).ne Em6 (by omega)).ne Em7 (by omega)).ne Em8 (by omega)).ext Eb3).ne Em9 (by omega)).ext Eb4).ne Em10 (by omega)), (((B3.ne Em9 (by omega)).ext Eb4).ne Em10 (by omega)), (B4.ne Em10 (by omega))⟩

def itoaRen : Go.Shelf.Ren := ⟨fun | 129 => 172 | 171 => 156 | 243 => 162 | 246 => 166 | 283 => 167 | 284 => 168 | 285 => 169 | 286 => 170 | 317 => 171 | 318 => 173 | 319 => 174 | 320 => 175 | 337 => 176 | 338 => 177 | n => n, fun | 0 => 0 | 2 => 2 | 3 => 3 | 4 => 4 | 5 => 5 | 9 => 9 | 20 => 20 | 37 => 123 | 46 => 100 | 51 => 89 | 53 => 207 | 171 => 211 | 173 => 214 | 212 => 218 | 213 => 219 | 232 => 222 | 233 => 223 | n => n, fun | 17 => 0 | 18 => 1 | 19 => 2 | n => n⟩
theorem itoaLays : Go.Proofs.LaysM.n171 Tryz.prog itoaRen where
 mixed := by kernel_rfl
 f129 := Tryz.func172.trans (congrArg some (by kernel_rfl))
 f171 := Tryz.func156.trans (congrArg some (by kernel_rfl))
 f243 := Tryz.func162.trans (congrArg some (by kernel_rfl))
 f246 := Tryz.func166.trans (congrArg some (by kernel_rfl))
 f283 := Tryz.func167.trans (congrArg some (by kernel_rfl))
 f284 := Tryz.func168.trans (congrArg some (by kernel_rfl))
 f285 := Tryz.func169.trans (congrArg some (by kernel_rfl))
 f286 := Tryz.func170.trans (congrArg some (by kernel_rfl))
 f317 := Tryz.func171.trans (congrArg some (by kernel_rfl))
 f318 := Tryz.func173.trans (congrArg some (by kernel_rfl))
 f319 := Tryz.func174.trans (congrArg some (by kernel_rfl))
 f320 := Tryz.func175.trans (congrArg some (by kernel_rfl))
 f337 := Tryz.func176.trans (congrArg some (by kernel_rfl))
 f338 := Tryz.func177.trans (congrArg some (by kernel_rfl))
 t0 := Tryz.underlying0
 a0 := Tryz.isAgg0
 z0 := Tryz.sizeOf0
 v0 := Tryz.zeroValue0
 t2 := Tryz.underlying2
 a2 := Tryz.isAgg2
 z2 := Tryz.sizeOf2
 v2 := Tryz.zeroValue2
 t3 := Tryz.underlying3
 a3 := Tryz.isAgg3
 z3 := Tryz.sizeOf3
 v3 := Tryz.zeroValue3
 t4 := Tryz.underlying4
 a4 := Tryz.isAgg4
 z4 := Tryz.sizeOf4
 v4 := Tryz.zeroValue4
 t5 := Tryz.underlying5
 a5 := Tryz.isAgg5
 z5 := Tryz.sizeOf5
 v5 := Tryz.zeroValue5
 t9 := Tryz.underlying9
 a9 := Tryz.isAgg9
 z9 := Tryz.sizeOf9
 v9 := Tryz.zeroValue9
 t20 := Tryz.underlying20
 a20 := Tryz.isAgg20
 z20 := Tryz.sizeOf20
 v20 := Tryz.zeroValue20
 t37 := Tryz.underlying123
 a37 := Tryz.isAgg123
 z37 := Tryz.sizeOf123
 v37 := Tryz.zeroValue123
 t46 := Tryz.underlying100
 a46 := Tryz.isAgg100
 z46 := Tryz.sizeOf100
 v46 := Tryz.zeroValue100
 t51 := Tryz.underlying89
 a51 := Tryz.isAgg89
 z51 := Tryz.sizeOf89
 v51 := Tryz.zeroValue89
 t53 := Tryz.underlying207
 a53 := Tryz.isAgg207
 z53 := Tryz.sizeOf207
 v53 := Tryz.zeroValue207
 t171 := Tryz.underlying211
 a171 := Tryz.isAgg211
 z171 := Tryz.sizeOf211
 v171 := Tryz.zeroValue211
 t173 := Tryz.underlying214
 a173 := Tryz.isAgg214
 z173 := Tryz.sizeOf214
 v173 := Tryz.zeroValue214
 t212 := Tryz.underlying218
 a212 := Tryz.isAgg218
 z212 := Tryz.sizeOf218
 v212 := Tryz.zeroValue218
 t213 := Tryz.underlying219
 a213 := Tryz.isAgg219
 z213 := Tryz.sizeOf219
 t232 := Tryz.underlying222
 a232 := Tryz.isAgg222
 z232 := Tryz.sizeOf222
 v232 := Tryz.zeroValue222
 t233 := Tryz.underlying223
 a233 := Tryz.isAgg223
 z233 := Tryz.sizeOf223
 v233 := Tryz.zeroValue223
 g17 := by kernel_rfl
 g18 := by kernel_rfl
 g19 := by kernel_rfl
 i0 := by kernel_rfl
 i2 := by kernel_rfl
 i3 := by kernel_rfl
 i4 := by kernel_rfl
 i5 := by kernel_rfl
 i9 := by kernel_rfl
 i20 := by kernel_rfl
 i37 := by kernel_rfl
 i46 := by kernel_rfl
 i51 := by kernel_rfl
 i53 := by kernel_rfl
 i171 := by kernel_rfl
 i173 := by kernel_rfl
 i212 := by kernel_rfl
 i232 := by kernel_rfl
 i233 := by kernel_rfl
 m17 := by kernel_rfl
 m18 := by kernel_rfl
 m19 := by kernel_rfl
theorem itoaG : Tryz.prog.globalNamed "internal/strconv.uint64pow10" = some 0 := by kernel_rfl
abbrev ItoaT (w : World) : Prop := Go.Lib.TabIs Tryz.prog w "internal/strconv.uint64pow10" .u64 [1, 10, 100, 1000, 10000, 100000, 1000000, 10000000, 100000000, 1000000000, 10000000000, 100000000000, 1000000000000, 10000000000000, 100000000000000, 1000000000000000, 10000000000000000, 100000000000000000, 1000000000000000000, 10000000000000000000]
theorem itoaPow : Go.Lib.pow10Tab = [1, 10, 100, 1000, 10000, 100000, 1000000, 10000000, 100000000, 1000000000, 10000000000, 100000000000, 1000000000000, 10000000000000, 100000000000000, 1000000000000000, 10000000000000000, 100000000000000000, 1000000000000000000, 10000000000000000000] := by decide
theorem itoa_ct {n : Int} (h0 : -9223372036854775808 ≤ n) (h1 : n ≤ 9223372036854775807) (w : World) (ht : ItoaT w) : CT Tryz.prog 156 [.int .i64 n] w no (fun u _ => u = .string ⟨(decB n).toArray⟩) :=
 ⟨callsIn_wide.2 ((Go.Proofs.Any.strconv_Itoa itoaLays n h0 h1 w (by rw [itoaPow]; exact ht)).mono fun e w' ⟨he, k, os, hw⟩ => ⟨_, he, by rw [hw]; exact (ext_drewN k w).trans' (ext_grow _ os), by rw [decB_itoa h0 h1]⟩)⟩

end Go.Proofs.YtnhgfmbmfjmonaaGreatDoor

/- Further plain laws of the cube. -/
import Derived.Test.YtlfclnkoimfhmaaDoorPre
set_option linter.unusedVariables false
set_option linter.unusedSimpArgs false
namespace Go.Proofs.YtlfclnkoimfhmaaDoor
open Go Go.RowKit Go.Mix Go.Eng
/-- the number at a place of a way, the dimension of the link ahead of it, and that of the link before -/
def atN (l : List Int) (i : Nat) : Nat := (l.getD i 0).toNat
def wk (l : List Int) (i : Nat) : Nat := tzN (atN l (i - 1) ^^^ atN l i)
def lastK (l : List Int) (i : Nat) : Int := if i ≤ 1 then -1 else (wk l (i - 1) : Nat)
theorem lastK_succ {l : List Int} {i : Nat} (h : 1 ≤ i) : lastK l (i + 1) = (wk l i : Nat) := by unfold lastK; rw [if_neg (by omega)]; rfl
theorem ways0 : ∀ f : Fin 8, ∀ t : Fin 8, ∀ i : Fin 4, 1 ≤ i.val → i.val < cnt f t + 1 →
    (wayL f t)[i.val]? = some ((atN (wayL f t) i : Nat) : Int) ∧ atN (wayL f t) (i - 1) < 8 ∧ atN (wayL f t) i < 8 ∧ wk (wayL f t) i < 3 ∧ atN (wayL f t) (i - 1) ^^^ atN (wayL f t) i = 1 * 2 ^ wk (wayL f t) i ∧ lastK (wayL f t) i < (wk (wayL f t) i : Nat) ∧
      ((f.val ^^^ t.val) / 2 ^ wk (wayL f t) i &&& 1) = 1 := by decide +kernel
theorem ways_at {f t i : Nat} (hf : f < 8) (ht : t < 8) (h1 : 1 ≤ i) (h2 : i < cnt f t + 1) :
    (wayL f t)[i]? = some ((atN (wayL f t) i : Nat) : Int) ∧ atN (wayL f t) (i - 1) < 8 ∧ atN (wayL f t) i < 8 ∧ wk (wayL f t) i < 3 ∧ atN (wayL f t) (i - 1) ^^^ atN (wayL f t) i = 1 * 2 ^ wk (wayL f t) i ∧ lastK (wayL f t) i < (wk (wayL f t) i : Nat) ∧
      ((f ^^^ t) / 2 ^ wk (wayL f t) i &&& 1) = 1 := ways0 ⟨f, hf⟩ ⟨t, ht⟩ ⟨i, by have := cnt_le f t; omega⟩ h1 h2
theorem pow_inj3 {j k : Nat} (hj : j < 3) (hk : k < 3) (h : (1 * 2 ^ j : Nat) = 1 * 2 ^ k) : j = k := by
  rcases (by omega : j = 0 ∨ j = 1 ∨ j = 2) with rfl | rfl | rfl <;> rcases (by omega : k = 0 ∨ k = 1 ∨ k = 2) with rfl | rfl | rfl <;> simp_all
theorem way_zero (f t : Nat) : (wayL f t)[0]? = some ((f : Nat) : Int) := by unfold wayL; cases cnt f t <;> rfl
theorem way_last0 : ∀ f : Fin 8, ∀ t : Fin 8, (wayL f t)[cnt f t]? = some ((t.val : Nat) : Int) := by decide +kernel
theorem way_last {f t : Nat} (hf : f < 8) (ht : t < 8) : (wayL f t)[cnt f t]? = some ((t : Nat) : Int) := way_last0 ⟨f, hf⟩ ⟨t, ht⟩
theorem wayR_in {dim f t : Nat} (hd : dim ≤ 3) (hf : f < 2 ^ dim) (ht : t < 2 ^ dim) : wayE dim f t = 0 ∧ wayR dim f t = wayL f t := by
  have h : wayE dim f t = 0 := by
    unfold wayE
    rw [if_neg (by omega), Int.toNat_natCast, if_neg (by omega)]
  exact ⟨h, by unfold wayR; rw [if_pos h, Int.toNat_natCast, Int.toNat_natCast]⟩
def popT (x k : Nat) : Nat := ((List.range k).map fun j => x / 2 ^ j &&& 1).sum
theorem popT_succ (x k : Nat) : popT x (k + 1) = popT x k + (x / 2 ^ k &&& 1) := by unfold popT; rw [List.range_succ]; simp
theorem popT_le (x k : Nat) : popT x k ≤ k := by
  induction k with
  | zero => exact Nat.le_refl _
  | succ k ih => rw [popT_succ, and1]; omega
theorem popT_cnt0 : ∀ f : Fin 8, ∀ t : Fin 8, popT (f.val ^^^ t.val) 3 = cnt f t := by decide +kernel
theorem popT_cnt {f t : Nat} (hf : f < 8) (ht : t < 8) : popT (f ^^^ t) 3 = cnt f t := popT_cnt0 ⟨f, hf⟩ ⟨t, ht⟩
theorem xor_lt8 {f t : Nat} (hf : f < 8) (ht : t < 8) : f ^^^ t < 8 := Nat.xor_lt_two_pow (n := 3) hf ht
theorem at_zero (f t : Nat) : Value.int .i64 ((f : Nat) : Int) = .int .i64 ((atN (wayL f t) (1 - 1) : Nat) : Int) := by unfold wayL; cases cnt f t <;> rfl

/-! What a filled cube is. -/
def putT (dim : Nat) (L : List (List Pk)) (p : Pk) : List (List Pk) := L.set (putN dim p) (L.getD (putN dim p) [] ++ [p])
/-- a cube that was filled by packets with the numbers below i, a: those put in, o: those that came out -/
inductive Fill (dim : Nat) (r : Int) : Nat → List (List Pk) → List Pk → List Pk → Prop
  | new : Fill dim r 0 (List.replicate (2 ^ dim * (dim + 1)) []) [] []
  | skip {i : Nat} {L : List (List Pk)} {a o : List Pk} (h : Fill dim r i L a o) : Fill dim r (i + 1) L a o
  | put {i x y : Nat} {L : List (List Pk)} {a o : List Pk} (h : Fill dim r i L a o) (hx : x < 2 ^ dim) (hy : y < 2 ^ dim) (hp : putE dim r L ((x : Int), (y : Int), (i : Int)) = 0) : Fill dim r (i + 1) (putT dim L ((x : Int), (y : Int), (i : Int))) (a ++ [((x : Int), (y : Int), (i : Int))]) o
  | move {i n : Nat} {L : List (List Pk)} {a o : List Pk} (h : Fill dim r i L a o) (hab : ableB dim r L n = true) : Fill dim r i (mvL dim L n) a (o ++ mvO dim L n)
theorem new_in {dim : Nat} {r : Int} (hd : dim ≤ 3) (hr : 1 ≤ r ∧ r ≤ 8) : newE dim r = 0 ∧ newC dim r = ((dim : Int), r, List.replicate (2 ^ dim * (dim + 1)) []) ∧ Valid dim r (List.replicate (2 ^ dim * (dim + 1)) []) := by
  have h : newE (dim : Int) r = 0 := by unfold newE; rw [if_neg (by omega)]
  exact ⟨h, by unfold newC; rw [if_pos h, Int.toNat_natCast], hd, hr, by rw [Nat.mul_comm]; exact form_rep hr.1⟩
theorem do_in {dim n : Nat} {r : Int} {L : List (List Pk)} (hV : Valid dim r L) (hab : ableB dim r L n = true) :
    doE dim r L (n / (dim + 1) : Nat) (n % (dim + 1) : Nat) = 0 ∧ doC dim r L (n / (dim + 1) : Nat) (n % (dim + 1) : Nat) = ((dim : Int), r, mvL dim L n) ∧ doO dim r L (n / (dim + 1) : Nat) (n % (dim + 1) : Nat) = mvO dim L n := by
  obtain ⟨p, q, hp⟩ := able_some hab
  obtain ⟨h1, h2, h3, h4⟩ := hV.at hp
  have hn := div_mod_n n dim
  have he : doE dim r L (n / (dim + 1) : Nat) (n % (dim + 1) : Nat) = 0 := doE_ok (l := p :: q) hV h2 h4 (by rw [hn]; exact hp) (by simp; omega) (by rw [hn]; exact hab)
  refine ⟨he, ?_, ?_⟩
  · unfold doC; rw [if_pos he]; simp only [doN, Int.toNat_natCast, hn]
  · unfold doO; rw [if_pos he]; simp only [doN, Int.toNat_natCast, hn]
theorem put_in {dim a b : Nat} {r z : Int} {L : List (List Pk)} (hV : Valid dim r L) (ha : a < 2 ^ dim) (hb : b < 2 ^ dim) :
    (putE dim r L ((a : Int), (b : Int), z) = 8) ∨ (putE dim r L ((a : Int), (b : Int), z) = 0 ∧ putC dim r L ((a : Int), (b : Int), z) = ((dim : Int), r, putT dim L ((a : Int), (b : Int), z)) ∧ Valid dim r (putT dim L ((a : Int), (b : Int), z))) := by
  have hd := hV.hd
  have hlt : a * (dim + 1) + dim < L.length := by rw [hV.len]; exact at_lt ha (Nat.le_refl _)
  obtain ⟨l, hl⟩ : ∃ l, L[a * (dim + 1) + dim]? = some l := ⟨_, List.getElem?_eq_getElem hlt⟩
  by_cases h : (l.length : Int) = r
  · exact .inl (putE_full hV ha hb hl h)
  · have he := putE_ok (z := z) hV ha hb hl h
    refine .inr ⟨he, by unfold putC; rw [if_pos he]; rfl, ?_⟩
    unfold putT
    have hn : putN (dim : Int) ((a : Int), (b : Int), z) = a * (dim + 1) + dim := by unfold putN; simp only [Int.toNat_natCast]
    rw [hn, getD_of hl]
    obtain ⟨h1, h2⟩ := hV.buf hl
    refine hV.set ⟨by rw [List.length_append, List.length_singleton]; omega, fun p hp => ?_⟩
    rw [List.mem_append, List.mem_singleton] at hp
    rcases hp with hp | rfl
    · exact h2 p hp
    · obtain ⟨e1, e2⟩ := div_at (d := dim) (m := a) (k := dim) (by omega)
      rw [e1, e2]
      unfold canB; rw [if_neg (by simp only; omega), if_pos rfl]; simp
theorem Valid.thin {dim : Nat} {r : Int} {L : List (List Pk)} (hV : Valid dim r L) : thinB L = true := by
  have h1 := hV.len; have h2 := hV.hd; have h3 := prod_le hV.hd
  unfold thinB
  rw [decide_eq_true (by omega), Bool.true_and, List.all_eq_true]
  intro l hl
  obtain ⟨n, hn⟩ := List.mem_iff_getElem?.1 hl
  have := hV.le8 hn
  exact decide_eq_true (by omega)
/-- the outcome of a copy, a move, a packet put in, within an interval of blocks -/
def CubeI (I : Nat × Nat) (d r : Int) (L : List (List Pk)) (v : Value) (w : World) : Prop := ∃ (s : Option Addr) (c : Nat), v = .agg #[.int .i64 d, .int .i64 r, .slice s L.length c] ∧ BufS (Iv I.1 I.2) w s L
def DoI (I : Nat × Nat) (d r : Int) (L : List (List Pk)) (o : List Pk) (v : Value) (w : World) : Prop :=
  ∃ (s : Option Addr) (c : Nat) (so : Option Addr) (co : Nat), v = .tuple #[.agg #[.int .i64 d, .int .i64 r, .slice s L.length c], .slice so o.length co, .int .i64 0] ∧ BufS (Iv I.1 I.2) w s L ∧ PkS (Iv I.1 I.2) w so o
def PutI (I : Nat × Nat) (d r : Int) (L : List (List Pk)) (e : Int) (v : Value) (w : World) : Prop :=
  ∃ (s : Option Addr) (c : Nat), v = .tuple #[.agg #[.int .i64 d, .int .i64 r, .slice s L.length c], .int .i64 e] ∧ BufS (Iv I.1 I.2) w s L
theorem CubeR.in {lo : Nat} {d r : Int} {L : List (List Pk)} {v : Value} {w : World} (h : CubeR lo w v d r L) : CubeI (lo, w.heap.size) d r L v w := h
theorem CubeI.fr {I : Nat × Nat} {d r : Int} {L : List (List Pk)} {v : Value} {w w' : World} {S : Nat → Prop} (h : CubeI I d r L v w) (hf : Fr S w w') (hS : ∀ k, I.1 ≤ k → k < I.2 → ¬ S k) : CubeI I d r L v w' := by
  obtain ⟨s, c, rfl, h1⟩ := h
  exact ⟨s, c, rfl, h1.fr (buf_stab _) hf (fun k hk => hS k hk.1 hk.2)⟩
theorem DoQ.in {lo dim n : Nat} {r : Int} {L : List (List Pk)} {v : Value} {w : World} (hV : Valid dim r L) (hab : ableB dim r L n = true) (h : DoQ lo dim r L (n / (dim + 1) : Nat) (n % (dim + 1) : Nat) v w) : DoI (lo, w.heap.size) dim r (mvL dim L n) (mvO dim L n) v w := by
  obtain ⟨h1, h2, h3⟩ := do_in hV hab
  obtain ⟨u, o, rfl, hu, ho⟩ := h
  rw [h2] at hu
  rw [h3] at ho
  rw [h1]
  obtain ⟨s, c, rfl, hu⟩ := hu
  obtain ⟨so, co, rfl, ho⟩ := ho
  exact ⟨s, c, so, co, rfl, hu, ho⟩
theorem DoI.fr {I : Nat × Nat} {d r : Int} {L : List (List Pk)} {o : List Pk} {v : Value} {w w' : World} {S : Nat → Prop} (h : DoI I d r L o v w) (hf : Fr S w w') (hS : ∀ k, I.1 ≤ k → k < I.2 → ¬ S k) : DoI I d r L o v w' := by
  obtain ⟨s, c, so, co, rfl, h1, h2⟩ := h
  exact ⟨s, c, so, co, rfl, h1.fr (buf_stab _) hf (fun k hk => hS k hk.1 hk.2), h2.fr (pk_stab _) hf (fun k hk => hS k hk.1 hk.2)⟩
theorem PutQ.in {lo : Nat} {d r : Int} {L : List (List Pk)} {p : Pk} {v : Value} {w : World} (h : PutQ lo d r L p v w) : PutI (lo, w.heap.size) (putC d r L p).1 (putC d r L p).2.1 (putC d r L p).2.2 (putE d r L p) v w := by
  obtain ⟨u, rfl, s, c, rfl, hu⟩ := h
  exact ⟨s, c, rfl, hu⟩
theorem PutI.fr {I : Nat × Nat} {d r e : Int} {L : List (List Pk)} {v : Value} {w w' : World} {S : Nat → Prop} (h : PutI I d r L e v w) (hf : Fr S w w') (hS : ∀ k, I.1 ≤ k → k < I.2 → ¬ S k) : PutI I d r L e v w' := by
  obtain ⟨s, c, rfl, h1⟩ := h
  exact ⟨s, c, rfl, h1.fr (buf_stab _) hf (fun k hk => hS k hk.1 hk.2)⟩
/-! How many packets there are. -/
theorem fill_in {dim i : Nat} {r : Int} {L : List (List Pk)} {a o : List Pk} (h : Fill dim r i L a o) : a.length ≤ i := by
  induction h with
  | new => simp
  | skip _ ih => omega
  | put _ _ _ _ ih => simp; omega
  | move _ _ ih => exact ih
theorem many_set {n : Nat} {x : List Pk} : ∀ {L : List (List Pk)} {l : List Pk}, L[n]? = some l → manyN (L.set n x) + l.length = manyN L + x.length := by
  induction n with
  | zero =>
    intro L l h
    cases L with
    | nil => simp at h
    | cons y L => simp only [List.getElem?_cons_zero, Option.some.injEq] at h; subst h; simp [manyN]; omega
  | succ n ih =>
    intro L l h
    cases L with
    | nil => simp at h
    | cons y L =>
      rw [List.getElem?_cons_succ] at h
      have := ih h
      simp only [manyN, List.set_cons_succ, List.map_cons, List.sum_cons] at this ⊢; omega
theorem moved_many {dim n : Nat} {r : Int} {L : List (List Pk)} (hV : Valid dim r L) (hab : ableB dim r L n = true) : manyN (mvL dim L n) + (mvO dim L n).length = manyN L := by
  obtain ⟨p, q, hp⟩ := able_some hab
  obtain ⟨dn, hdn⟩ : ∃ t, t = tgt dim n p := ⟨_, rfl⟩
  have hs := many_set (x := q) hp
  unfold mvL mvO movedL movedO; rw [hp]
  dsimp only
  by_cases ht : tgt dim n p < 0
  · rw [if_pos ht, if_pos ht]; simp only [List.length_cons, List.length_nil] at hs ⊢; omega
  · rw [if_neg ht, if_neg ht]
    have hti := (tgt_info hV hp)
    have hlt : (tgt dim n p).toNat < (L.set n q).length := by
      rw [List.length_set]
      rcases hti with h | ⟨m, _, e, hm, _⟩
      · omega
      · rw [e, Int.toNat_natCast]; exact hm
    obtain ⟨l, hl⟩ : ∃ l, (L.set n q)[(tgt dim n p).toNat]? = some l := ⟨_, List.getElem?_eq_getElem hlt⟩
    have h2 := many_set (x := l ++ [p]) hl
    rw [getD_of hl]
    simp only [List.length_append, List.length_cons, List.length_nil] at h2 hs ⊢; omega
theorem put_many {dim a b : Nat} {r z : Int} {L : List (List Pk)} (hV : Valid dim r L) (ha : a < 2 ^ dim) : manyN (putT dim L ((a : Int), (b : Int), z)) = manyN L + 1 := by
  have hlt : a * (dim + 1) + dim < L.length := by rw [hV.len]; exact at_lt ha (Nat.le_refl _)
  obtain ⟨l, hl⟩ : ∃ l, L[a * (dim + 1) + dim]? = some l := ⟨_, List.getElem?_eq_getElem hlt⟩
  have hn : putN (dim : Int) ((a : Int), (b : Int), z) = a * (dim + 1) + dim := by unfold putN; simp only [Int.toNat_natCast]
  unfold putT
  rw [hn, getD_of hl]
  have := many_set (x := l ++ [((a : Int), (b : Int), z)]) hl
  rw [List.length_append, List.length_singleton] at this; omega
theorem fill_valid {dim i : Nat} {r : Int} {L : List (List Pk)} {a o : List Pk} (hd : dim ≤ 3) (hr : 1 ≤ r ∧ r ≤ 8) (h : Fill dim r i L a o) : Valid dim r L := by
  induction h with
  | new => exact (new_in hd hr).2.2
  | skip _ ih => exact ih
  | put _ hx hy hp ih =>
    rcases put_in (z := _) ih hx hy with h8 | ⟨_, _, hV⟩
    · rw [hp] at h8; cases h8
    · exact hV
  | move _ hab ih => exact mvL_valid ih hab
theorem fill_many {dim i : Nat} {r : Int} {L : List (List Pk)} {a o : List Pk} (hd : dim ≤ 3) (hr : 1 ≤ r ∧ r ≤ 8) (h : Fill dim r i L a o) : manyN L + o.length = a.length := by
  induction h with
  | new => rw [many_rep]; rfl
  | skip _ ih => exact ih
  | put h hx hy hp ih => rw [put_many (fill_valid hd hr h) hx, List.length_append, List.length_singleton]; omega
  | move h hab ih => have := moved_many (fill_valid hd hr h) hab; rw [List.length_append]; omega
theorem fill_bd {dim i : Nat} {r : Int} {L : List (List Pk)} {a o : List Pk} (hd : dim ≤ 3) (hr : 1 ≤ r ∧ r ≤ 8) (h : Fill dim r i L a o) : a.length ≤ i ∧ o.length ≤ i := by
  have h1 := fill_in h
  have h2 := fill_many hd hr h
  omega
/-- what a packet is made of -/
def sC (x : Nat × Nat × Nat) : List Value := [.int .u8 (x.1 : Nat), .int .u8 (x.2.1 : Nat), .int .u8 (x.2.2 : Nat)]
theorem sn_stab (F : Nat → Prop) : Stab F (Fl sC) := Fl.stab F sC
def FilledQ (dim : Nat) (r : Int) (v : Value) (w : World) : Prop :=
  ∃ (n : Nat) (L : List (List Pk)) (a o : List Pk) (s : Option Addr) (c : Nat) (sa : Option Addr) (ca : Nat) (so : Option Addr) (co : Nat), v = .tuple #[.agg #[.int .i64 dim, .int .i64 r, .slice s L.length c], .slice sa a.length ca, .slice so o.length co, .bool true] ∧
    BufS (fun k => k < w.heap.size) w s L ∧ PkS (fun k => k < w.heap.size) w sa a ∧ PkS (fun k => k < w.heap.size) w so o ∧ n ≤ 60 ∧ Valid dim r L ∧ Fill dim r n L a o
theorem own_pkS {w : World} {n c : Nat} {s : Option Addr} {l : List Pk} (h : OwnS w 41 3 s n c (l.flatMap pkC)) : PkS (fun k => k < w.heap.size) w s l :=
  h.sl (by decide) rfl (fun _ _ => rfl) (fun _ hk => h.lt hk)
theorem rn_quo8 {P : Program} {N : Nat} {ρ : Nat → Value} {w : World} {d : Option Tmp} {t : TypeId} {p : String} {a : Array Edge} {g : Option (Nat × Bool)} {x y : Operand} {T Ty : TypeId} {m n : Nat} (hx : ev N ρ x = .int .u8 (m : Int)) (hy : ev N ρ y = .int .u8 (n : Int)) (h : m < 256 ∧ 0 < n) :
    Rn P N ⟨d, .binOp .quo T x y Ty, t, p, a, g⟩ ρ w (.int .u8 ((m / n : Nat) : Int)) w :=
  rn_bin hx hy (by
    have h1 : m / n < 256 := Nat.lt_of_le_of_lt (Nat.div_le_self m n) h.1
    have h2 : IntKind.u8.wrap (((m / n : Nat) : Int)) = ((m / n : Nat) : Int) := by
      have h3 : (0 : Int) ≤ (m : Int) / (n : Int) := Int.ediv_nonneg (by omega) (by omega)
      simp [IntKind.wrap, IntKind.bits, IntKind.signed]; omega
    simp [binOp, Op.intDiv, show n ≠ 0 by omega, Int.tdiv_eq_ediv_of_nonneg (Int.natCast_nonneg m)]
    simpa using h2)
def nC (z : Nat) : List Value := [.int .u8 (z : Nat)]
theorem pick_snoc {l : List Nat} {i z n c : Nat} {w : World} {s : Option Addr} (hz : l[i]? = some z) (h : OwnS w 3 1 s n c (((l.take i).map fun z : Nat => (z : Int)).flatMap intC ++ ([.int .i64 (z : Nat)] ++ []))) : OwnS w 3 1 s n c (((l.take (i + 1)).map fun z : Nat => (z : Int)).flatMap intC) := by
  rw [List.take_add_one, hz, List.map_append, List.flatMap_append]; exact h
theorem picks_ok {l : List Nat} {i m c : Nat} {w : World} {lo : Nat} {s : Option Addr} (hi : i ≤ l.length) (h : i = 60 ∨ (i < 60 ∧ i = l.length)) (hm : m = i) (ho : OwnS w 3 1 s m c (((l.take i).map fun z : Nat => (z : Int)).flatMap intC)) (hg : ∀ k, ob s k → lo ≤ k) :
    IntR lo w (.slice s m c) ((l.take 60).map fun z : Nat => (z : Int)) := by
  have e : l.take i = l.take 60 := by
    rcases h with h | ⟨h1, h2⟩
    · rw [h]
    · rw [List.take_of_length_le (by omega), List.take_of_length_le (by omega)]
  exact own_int ho (by rw [List.length_map, List.length_take]; omega) (by rw [e]) hg
/-! The same packets in two lists. -/
def eachB (a b : List Pk) : Bool := decide (a.length = b.length) && a.all fun x => decide (b.count x = 1)
theorem pk_eq' {p q : Pk} (h : p.1 = q.1 ∧ p.2.1 = q.2.1 ∧ p.2.2 = q.2.2) : p = q := Prod.ext h.1 (Prod.ext h.2.1 h.2.2)
theorem pk_ne' {p q : Pk} (h : ¬ (p.1 = q.1 ∧ p.2.1 = q.2.1 ∧ p.2.2 = q.2.2)) : p ≠ q := fun e => h (by rw [e]; exact ⟨rfl, rfl, rfl⟩)
theorem cnt_t {l : List Pk} {k : Nat} {x y : Pk} (hy : l[k]? = some y) (h : x = y) : (l.take (k + 1)).count x = (l.take k).count x + 1 := by
  rw [List.take_add_one, hy, List.count_append, h]; simp
theorem cnt_f {l : List Pk} {k : Nat} {x y : Pk} (hy : l[k]? = some y) (h : x ≠ y) : (l.take (k + 1)).count x = (l.take k).count x := by
  rw [List.take_add_one, hy, List.count_append]; simp [List.count_cons, h.symm]
theorem cnt_le_take {l : List Pk} (x : Pk) (k : Nat) : (l.take k).count x ≤ l.length := Nat.le_trans List.count_le_length (by rw [List.length_take]; omega)
theorem cnt_end {l : List Pk} (x : Pk) {k : Nat} (h : l.length ≤ k) : (l.take k).count x = l.count x := by rw [List.take_of_length_le h]
theorem each_step {a b : List Pk} {i : Nat} {x : Pk} (hq : (a.take i).all (fun x => decide (b.count x = 1)) = true) (hx : a[i]? = some x) (h : b.count x = 1) : (a.take (i + 1)).all (fun x => decide (b.count x = 1)) = true := by
  rw [List.take_add_one, List.all_append, hq, hx]; simp [h]
theorem each_len {a b : List Pk} (h : ¬ (a.length : Int) = (b.length : Int)) : Value.bool false = .bool (eachB a b) := by unfold eachB; rw [decide_eq_false (by omega)]; rfl
theorem each_no {a b : List Pk} {i : Nat} {x : Pk} (hx : a[i]? = some x) (h : ¬ b.count x = 1) : Value.bool false = .bool (eachB a b) := by
  have : a.all (fun x => decide (b.count x = 1)) = false := by
    rw [List.all_eq_false]
    exact ⟨x, List.mem_of_getElem? hx, by simpa using h⟩
  unfold eachB; rw [this, Bool.and_false]
theorem each_yes {a b : List Pk} {i : Nat} (hl : ¬ ¬ (a.length : Int) = (b.length : Int)) (hq : (a.take i).all (fun x => decide (b.count x = 1)) = true) (hi : a.length ≤ i) : Value.bool true = .bool (eachB a b) := by
  rw [List.take_of_length_le hi] at hq
  unfold eachB; rw [decide_eq_true (by omega), hq]; rfl
/-- of packets with the same ends that with the smaller load came first -/
def Ordd (l : List Pk) : Prop := ∀ (i k : Nat) (x y : Pk), i < k → l[i]? = some x → l[k]? = some y → x.1 = y.1 → x.2.1 = y.2.1 → x.2.2 < y.2.2
theorem own_app1 {w : World} {s : Option Addr} {n c : Nat} {l : List Pk} {x y z : Int} (h : OwnS w 41 3 s n c (l.flatMap pkC ++ [.int .i64 x, .int .i64 y, .int .i64 z])) : OwnS w 41 3 s n c ((l ++ [(x, y, z)]).flatMap pkC) := by
  rw [List.flatMap_append]; exact h

theorem left_eq {dim : Nat} {r : Int} {L : List (List Pk)} (hV : Valid dim r L) : leftQ dim r L = leftN dim L L.length := by unfold leftQ; rw [if_pos hV.chk, Int.toNat_natCast]
theorem leftV {P : Program} {f : FuncId} {args : List Value} {S : Nat → Prop} {w : World} {dim : Nat} {r : Int} {L : List (List Pk)} (hV : Valid dim r L) (h : CT P f args w S (fun v _ => v = .tuple #[.int .i64 (leftQ dim r L : Nat), .int .i64 (chkE dim r L)])) :
    CT P f args w S (fun v _ => v = .tuple #[.int .i64 (leftN dim L L.length : Nat), .int .i64 0]) := by rw [left_eq hV, hV.chk] at h; exact h
theorem doV {P : Program} {f : FuncId} {args : List Value} {S : Nat → Prop} {w : World} {lo dim n : Nat} {r : Int} {L : List (List Pk)} (hV : Valid dim r L) (hab : ableB dim r L n = true) (h : CT P f args w S (fun v w' => DoQ lo dim r L (n / (dim + 1) : Nat) (n % (dim + 1) : Nat) v w')) :
    CT P f args w S (fun v w' => ∃ (s : Option Addr) (c : Nat) (so : Option Addr) (co : Nat), v = .tuple #[.agg #[.int .i64 dim, .int .i64 r, .slice s (mvL dim L n).length c], .slice so (mvO dim L n).length co, .int .i64 0] ∧ BufS (Iv lo w'.heap.size) w' s (mvL dim L n) ∧ PkS (Iv lo w'.heap.size) w' so (mvO dim L n)) :=
  h.mono (fun _ _ h => h) fun v w' _ hq => hq.in hV hab
theorem putT_len (dim : Nat) (L : List (List Pk)) (p : Pk) : (putT dim L p).length = L.length := by unfold putT; rw [List.length_set]
theorem left_put {dim a b : Nat} {r z : Int} {L : List (List Pk)} (hV : Valid dim r L) (ha : a < 2 ^ dim) : leftN dim (putT dim L ((a : Int), (b : Int), z)) L.length = leftN dim L L.length + (wayL a b).length := by
  have hlt : a * (dim + 1) + dim < L.length := by rw [hV.len]; exact at_lt ha (Nat.le_refl _)
  have hn : putN (dim : Int) ((a : Int), (b : Int), z) = a * (dim + 1) + dim := by unfold putN; simp only [Int.toNat_natCast]
  unfold putT
  rw [hn]
  have h1 := leftN_set (dim := dim) (x := L.getD (a * (dim + 1) + dim) [] ++ [((a : Int), (b : Int), z)]) hlt hlt
  rw [leftB_snoc] at h1
  have h2 : wayN dim (a * (dim + 1) + dim) ((a : Int), (b : Int), z) = (wayL a b).length := by
    unfold wayN
    rw [(div_at (d := dim) (m := a) (k := dim) (by omega)).1]
    simp only [Int.toNat_natCast]
  omega
theorem mvL_left {dim n : Nat} {r : Int} {L : List (List Pk)} (hV : Valid dim r L) (hab : ableB dim r L n = true) : leftN dim (mvL dim L n) (mvL dim L n).length + 1 = leftN dim L L.length := by
  obtain ⟨p, q, hp⟩ := able_some hab
  have h1 := (moved_valid hV hp hab).2
  have h2 := mvL_len dim n L
  have e : mvL dim L n = movedL dim L n p q := by unfold mvL; rw [hp]
  rw [h2, e]; exact h1
theorem moves_none {dim : Nat} {r : Int} {L : List (List Pk)} (hV : Valid dim r L) : leftN dim L L.length = 0 ↔ (movesL dim r L L.length).length = 0 := by
  constructor
  · intro h
    have hm := left_many h
    cases hx : movesL dim r L L.length with
    | nil => rfl
    | cons x l =>
      exfalso
      obtain ⟨n, hn, hab, _⟩ := moves_at (k := 0) (x := x) (by rw [hx]; rfl)
      obtain ⟨p, q, hp⟩ := able_some hab
      have := many_set (x := []) hp
      rw [hm] at this
      simp at this
  · intro h
    rcases Nat.eq_zero_or_pos (manyN L) with h1 | h1
    · exact many_left h1
    · obtain ⟨n, hn, hab⟩ := never_stuck hV h1
      exfalso
      have : (n / (dim + 1), n % (dim + 1)) ∈ movesL dim r L L.length := by
        unfold movesL
        rw [List.mem_map]
        exact ⟨n, List.mem_filter.2 ⟨List.mem_range.2 hn, hab⟩, rfl⟩
      have := List.length_pos_of_mem this
      omega
theorem fill_left {dim i : Nat} {r : Int} {L : List (List Pk)} {a o : List Pk} (hd : dim ≤ 3) (hr : 1 ≤ r ∧ r ≤ 8) (h : Fill dim r i L a o) : leftN dim L L.length ≤ 4 * a.length := by
  induction h with
  | new => rw [many_left (many_rep _)]; omega
  | skip _ ih => exact ih
  | @put i x y L a o h hx hy hp ih =>
    rw [putT_len, left_put (fill_valid hd hr h) hx, List.length_append, List.length_singleton]
    have := way_size x y; have := cnt_le x y; omega
  | move h hab ih => have := mvL_left (fill_valid hd hr h) hab; omega
theorem nat_of_map {l : List Nat} {i : Nat} {z : Int} (h : (l.map fun z : Nat => (z : Int))[i]? = some z) : ∃ k : Nat, z = (k : Int) := by
  rw [List.getElem?_map] at h
  cases hx : l[i]? with
  | none => rw [hx] at h; cases h
  | some x => rw [hx] at h; exact ⟨x, (Option.some.inj h).symm⟩
theorem left_go {dim : Nat} {r : Int} {L : List (List Pk)} (hV : Valid dim r L) (h : 0 < leftN dim L L.length) : 0 < goN dim r L L.length := by
  refine round_go hV (Nat.pos_of_ne_zero fun e => ?_)
  rw [many_left e] at h; omega
theorem IntS.on {F F' S : Nat → Prop} {w w' : World} {s : Option Addr} {l : List Int} (h : IntS F w s l) (hf : Fr S w w') (hS : ∀ k, F k → ¬ S k) (h1 : ∀ k, F k → F' k) : IntS F' w' s l := fun i x hi => by
  obtain ⟨b, o, h2, h3, h4⟩ := (h.fr (int_stab _) hf hS) i x hi
  exact ⟨b, o, h2, h1 b h3, h4⟩
theorem rn_bneq {P : Program} {N : Nat} {ρ : Nat → Value} {w : World} {d : Option Tmp} {t : TypeId} {p : String} {a : Array Edge} {g : Option (Nat × Bool)} {x y : Operand} {T Ty : TypeId} {m n : Bool} (hT : P.underlying T = some .bool) (hx : ev N ρ x = .bool m) (hy : ev N ρ y = .bool n) :
    Rn P N ⟨d, .binOp .neq T x y Ty, t, p, a, g⟩ ρ w (.bool (decide (m ≠ n))) w :=
  ⟨fun _ h => (by cases h), by
    have he : (eqGuard .neq T x y (.bool m) (.bool n)).run P w = .ok () w := by unfold eqGuard; simp
    have h : (binOp .neq T (.bool m) (.bool n)).run P w = .ok (.bool (decide (m ≠ n))) w := by cases m <;> cases n <;> simp [go_sem, hT]
    simp [execOp, hx, hy, he, h]⟩

/-! Each packet comes out once, and in its order. -/
def nextB (dim b n : Nat) : Nat := overN (n / (dim + 1)) (bitN (n / (dim + 1)) b).toNat * (dim + 1) + (bitN (n / (dim + 1)) b).toNat
def path (dim b : Nat) : Nat → Nat → List Nat
  | 0, n => [n]
  | f + 1, n => n :: path dim b f (nextB dim b n)
def pathL (dim a b : Nat) : List Nat := path dim b (cnt a b) (a * (dim + 1) + dim)
def chainB (dim b : Nat) : List Nat → Bool
  | [] => true
  | n :: l => (match l with | [] => decide (bitN (n / (dim + 1)) b < 0) | m :: _ => decide (0 ≤ bitN (n / (dim + 1)) b) && decide (nextB dim b n = m)) && chainB dim b l
def nodupB : List Nat → Bool
  | [] => true
  | n :: l => !(l.contains n) && nodupB l
theorem path0 : ∀ dim : Fin 4, ∀ a : Fin 8, ∀ b : Fin 8, a.val < 2 ^ dim.val → b.val < 2 ^ dim.val →
    (chainB dim b (pathL dim a b) = true ∧ nodupB (pathL dim a b) = true ∧ (pathL dim a b).head? = some (a.val * (dim.val + 1) + dim.val)) ∧ ∀ n : Fin 32, n.val < 2 ^ dim.val * (dim.val + 1) → canB dim ((a.val : Int), (b.val : Int), 0) (n / (dim + 1)) (n % (dim + 1)) = true → n.val ∈ pathL dim a b := by decide +kernel
theorem can_load {dim s q : Nat} {a b z z' : Int} : canB dim (a, b, z) s q = canB dim (a, b, z') s q := rfl
theorem path_facts {dim a b : Nat} (hd : dim ≤ 3) (ha : a < 2 ^ dim) (hb : b < 2 ^ dim) :
    chainB dim b (pathL dim a b) = true ∧ nodupB (pathL dim a b) = true ∧ (pathL dim a b).head? = some (a * (dim + 1) + dim) ∧ ∀ (n : Nat) (z : Int), n < 2 ^ dim * (dim + 1) → canB dim ((a : Int), (b : Int), z) (n / (dim + 1)) (n % (dim + 1)) = true → n ∈ pathL dim a b := by
  have h8 : 2 ^ dim ≤ 8 := pow2_le dim (Nat.le_refl _) hd
  obtain ⟨⟨h1, h2, h3⟩, h4⟩ := path0 ⟨dim, by omega⟩ ⟨a, by omega⟩ ⟨b, by omega⟩ ha hb
  refine ⟨h1, h2, h3, fun n z hn hc => ?_⟩
  have := prod_le hd
  exact h4 ⟨n, by omega⟩ hn (by rw [can_load (z' := z)]; exact hc)
def endsB (a b : Nat) (p : Pk) : Bool := decide (p.1 = (a : Int)) && decide (p.2.1 = (b : Int))
def flt (a b : Nat) (L : List (List Pk)) (n : Nat) : List Pk := (L.getD n []).filter (endsB a b)
def seqP (a b : Nat) (L : List (List Pk)) : List Nat → List Pk
  | [] => []
  | n :: l => seqP a b L l ++ flt a b L n
theorem getD_set {L : List (List Pk)} {n x : Nat} {v : List Pk} (hn : n < L.length) : (L.set n v).getD x [] = if n = x then v else L.getD x [] := by
  rw [List.getD_eq_getElem?_getD, List.getElem?_set]
  by_cases h : n = x
  · rw [if_pos h, if_pos (by omega), if_pos h]; rfl
  · rw [if_neg h, if_neg h, List.getD_eq_getElem?_getD]
theorem seq_same {a b : Nat} {L L' : List (List Pk)} : ∀ {l : List Nat}, (∀ n ∈ l, flt a b L' n = flt a b L n) → seqP a b L' l = seqP a b L l
  | [], _ => rfl
  | n :: l, h => by
    unfold seqP
    rw [seq_same (fun m hm => h m (List.mem_cons_of_mem _ hm)), h n (List.mem_cons_self ..)]
theorem tgt_chain {dim n a b : Nat} {z : Int} : tgt dim n ((a : Int), (b : Int), z) = if bitN (n / (dim + 1)) b < 0 then -1 else ((nextB dim b n : Nat) : Int) := by
  unfold tgt nextB; simp only [Int.toNat_natCast]
/-- what a chain knows of the place behind one of its own -/
theorem chain_next {dim b a n : Nat} {z : Int} : ∀ {l : List Nat}, chainB dim b l = true → n ∈ l → 0 ≤ tgt dim n ((a : Int), (b : Int), z) → (tgt dim n ((a : Int), (b : Int), z)).toNat ∈ l
  | [], _, hn, _ => by cases hn
  | x :: l, hc, hn, ht => by
    unfold chainB at hc
    rw [Bool.and_eq_true] at hc
    rcases List.mem_cons.1 hn with rfl | hm
    · cases l with
      | nil =>
        have := of_decide_eq_true hc.1
        rw [tgt_chain, if_pos this] at ht; omega
      | cons m l =>
        have h1 := hc.1
        rw [Bool.and_eq_true] at h1
        have h2 := of_decide_eq_true h1.1
        have h3 := of_decide_eq_true h1.2
        rw [tgt_chain, if_neg (by omega), h3, Int.toNat_natCast]
        exact List.mem_cons_of_mem _ (List.mem_cons_self ..)
    · exact List.mem_cons_of_mem _ (chain_next hc.2 hm ht)
theorem nodup_not {n : Nat} {l : List Nat} (h : nodupB (n :: l) = true) : ¬ n ∈ l ∧ nodupB l = true := by
  unfold nodupB at h
  rw [Bool.and_eq_true] at h
  refine ⟨fun hm => ?_, h.2⟩
  have := h.1
  rw [List.contains_iff_mem.2 hm] at this
  cases this
theorem moved_at {dim n x : Nat} {L : List (List Pk)} {p : Pk} {q : List Pk} (hn : n < L.length) (ht : tgt dim n p < 0 ∨ (tgt dim n p).toNat < L.length) :
    (movedL dim L n p q).getD x [] = (if n = x then q else L.getD x []) ++ (if 0 ≤ tgt dim n p ∧ (tgt dim n p).toNat = x then [p] else []) := by
  unfold movedL
  by_cases h : tgt dim n p < 0
  · rw [if_pos h, getD_set hn, if_neg (show ¬ (0 ≤ tgt dim n p ∧ (tgt dim n p).toNat = x) by omega), List.append_nil]
  · rw [if_neg h, getD_set (by rw [List.length_set]; omega)]
    by_cases hx : (tgt dim n p).toNat = x
    · rw [if_pos hx, if_pos (show 0 ≤ tgt dim n p ∧ (tgt dim n p).toNat = x from ⟨by omega, hx⟩), hx, getD_set hn]
    · rw [if_neg hx, if_neg (show ¬ (0 ≤ tgt dim n p ∧ (tgt dim n p).toNat = x) from fun h => hx h.2), List.append_nil, getD_set hn]
theorem flt_moved {dim n x a b : Nat} {L : List (List Pk)} {p : Pk} {q : List Pk} (hn : n < L.length) (ht : tgt dim n p < 0 ∨ (tgt dim n p).toNat < L.length) :
    flt a b (movedL dim L n p q) x = (if n = x then q else L.getD x []).filter (endsB a b) ++ (if 0 ≤ tgt dim n p ∧ (tgt dim n p).toNat = x then [p] else []).filter (endsB a b) := by
  unfold flt; rw [moved_at hn ht, List.filter_append]
/-- a packet with other ends changes nothing -/
theorem flt_other {dim n x a b : Nat} {L : List (List Pk)} {p : Pk} {q : List Pk} (hp : L[n]? = some (p :: q)) (ht : tgt dim n p < 0 ∨ (tgt dim n p).toNat < L.length) (he : endsB a b p = false) : flt a b (movedL dim L n p q) x = flt a b L x := by
  rw [flt_moved (List.getElem?_eq_some_iff.1 hp).1 ht]
  have h2 : (if 0 ≤ tgt dim n p ∧ (tgt dim n p).toNat = x then [p] else []).filter (endsB a b) = [] := by split <;> simp [he]
  rw [h2, List.append_nil]
  by_cases hx : n = x
  · subst hx
    unfold flt; rw [if_pos rfl, getD_of hp]; simp [he]
  · unfold flt; rw [if_neg hx]
theorem seq_move {dim n a b : Nat} {z : Int} {L : List (List Pk)} {q : List Pk} (hp : L[n]? = some (((a : Int), (b : Int), z) :: q)) (ht : tgt dim n ((a : Int), (b : Int), z) < 0 ∨ (tgt dim n ((a : Int), (b : Int), z)).toNat < L.length) :
    ∀ {l : List Nat}, chainB dim b l = true → nodupB l = true → n ∈ l →
      (movedO dim n ((a : Int), (b : Int), z)).filter (endsB a b) ++ seqP a b (movedL dim L n ((a : Int), (b : Int), z) q) l = seqP a b L l
  | [], _, _, hn => by cases hn
  | x :: l, hc, hd, hn => by
    have hlt := (List.getElem?_eq_some_iff.1 hp).1
    have hE : endsB a b ((a : Int), (b : Int), z) = true := by unfold endsB; simp
    obtain ⟨hx, hdl⟩ := nodup_not hd
    have hc0 := hc
    unfold chainB at hc
    rw [Bool.and_eq_true] at hc
    by_cases hnx : n = x
    · subst hnx
      cases l with
      | nil =>
        have hb := of_decide_eq_true hc.1
        have htn : tgt dim n ((a : Int), (b : Int), z) = -1 := by rw [tgt_chain, if_pos hb]
        unfold seqP seqP
        rw [flt_moved hlt ht, if_pos rfl, if_neg (by omega)]
        unfold flt movedO
        rw [getD_of hp, if_pos (by omega)]
        simp [hE]
      | cons m l =>
        have h1 := hc.1
        rw [Bool.and_eq_true] at h1
        have h2 := of_decide_eq_true h1.1
        have h3 := of_decide_eq_true h1.2
        have htn : tgt dim n ((a : Int), (b : Int), z) = ((m : Nat) : Int) := by rw [tgt_chain, if_neg (by omega), h3]
        obtain ⟨hm, _⟩ := nodup_not hdl
        have hnm : n ≠ m := fun e => hx (by rw [e]; exact List.mem_cons_self ..)
        have hs : seqP a b (movedL dim L n ((a : Int), (b : Int), z) q) l = seqP a b L l := seq_same fun y hy => by
          rw [flt_moved hlt ht, if_neg (fun e => hx (by rw [e]; exact List.mem_cons_of_mem _ hy)), if_neg (fun h => hm (by rw [htn, Int.toNat_natCast] at h; rw [h.2]; exact hy))]
          unfold flt; simp
        show _ ++ ((seqP a b _ l ++ flt a b _ m) ++ flt a b _ n) = (seqP a b L l ++ flt a b L m) ++ flt a b L n
        rw [hs, flt_moved hlt ht, flt_moved hlt ht, if_neg hnm, if_pos rfl, if_pos ⟨by omega, by rw [htn, Int.toNat_natCast]⟩, if_neg (fun h => hnm (by have := h.2; rw [htn, Int.toNat_natCast] at this; exact this.symm))]
        unfold flt movedO
        rw [getD_of hp, if_neg (by omega)]
        simp [hE]
    · have hnl : n ∈ l := by
        rcases List.mem_cons.1 hn with h | h
        · exact absurd h hnx
        · exact h
      have ih := seq_move hp ht hc.2 hdl hnl
      have hf : flt a b (movedL dim L n ((a : Int), (b : Int), z) q) x = flt a b L x := by
        rw [flt_moved hlt ht, if_neg hnx]
        have : (if 0 ≤ tgt dim n ((a : Int), (b : Int), z) ∧ (tgt dim n ((a : Int), (b : Int), z)).toNat = x then [((a : Int), (b : Int), z)] else []) = [] := by
          rw [if_neg]
          rintro ⟨h1, h2⟩
          exact hx (by rw [← h2]; exact chain_next hc.2 hnl h1)
        rw [this]
        unfold flt; simp
      show _ ++ (seqP a b _ l ++ flt a b _ x) = seqP a b L l ++ flt a b L x
      rw [hf, ← List.append_assoc, ih]

/-- what every move and every round keeps: of each pair of ends the packets that came out, and then those on the way, are those that were put in -/
structure Keep (dim : Nat) (L : List (List Pk)) (a o : List Pk) : Prop where
  inv : ∀ x y, x < 2 ^ dim → y < 2 ^ dim → o.filter (endsB x y) ++ seqP x y L (pathL dim x y) = a.filter (endsB x y)
  ain : ∀ p ∈ a, ∃ x y, x < 2 ^ dim ∧ y < 2 ^ dim ∧ endsB x y p = true
  oin : ∀ p ∈ o, ∃ x y, x < 2 ^ dim ∧ y < 2 ^ dim ∧ endsB x y p = true
  inc : a.Pairwise fun p q => p.2.2 < q.2.2
theorem ends_self (a b : Nat) (z : Int) : endsB a b ((a : Int), (b : Int), z) = true := by unfold endsB; simp
theorem ends_eq {a b x y : Nat} {z : Int} (h : endsB x y ((a : Int), (b : Int), z) = true) : x = a ∧ y = b := by
  unfold endsB at h
  rw [Bool.and_eq_true] at h
  have h1 := of_decide_eq_true h.1
  have h2 := of_decide_eq_true h.2
  exact ⟨by dsimp only at h1; omega, by dsimp only at h2; omega⟩
theorem keep_mv {dim n : Nat} {r : Int} {L : List (List Pk)} {a o : List Pk} (hV : Valid dim r L) (h : Keep dim L a o) : Keep dim (mvL dim L n) a (o ++ mvO dim L n) := by
  unfold mvL mvO
  cases hp : L[n]? with
  | none => simpa using h
  | some l =>
    cases l with
    | nil => simpa using h
    | cons p q =>
      dsimp only
      obtain ⟨x, y, e, hx, hy⟩ := can_in ((hV.buf hp).2 p (List.mem_cons_self ..))
      obtain ⟨p1, p2, z⟩ := p
      injection e with e1 e
      injection e with e2 e3
      subst e1; subst e2
      have hti := tgt_info hV hp
      have ht : tgt dim n ((x : Int), (y : Int), z) < 0 ∨ (tgt dim n ((x : Int), (y : Int), z)).toNat < L.length := by
        rcases hti with h | ⟨m, _, e, hm, _⟩
        · exact .inl h.1
        · exact .inr (by rw [e, Int.toNat_natCast]; exact hm)
      obtain ⟨hc, hd, _, hin⟩ := path_facts hV.hd hx hy
      have hnl := hin n z (hV.at hp).1 ((hV.buf hp).2 _ (List.mem_cons_self ..))
      refine ⟨fun u v hu hv => ?_, h.ain, fun t ht2 => ?_, h.inc⟩
      · rw [← h.inv u v hu hv, List.filter_append, List.append_assoc]
        congr 1
        by_cases he : endsB u v ((x : Int), (y : Int), z) = true
        · obtain ⟨rfl, rfl⟩ := ends_eq he
          exact seq_move hp ht hc hd hnl
        · rw [Bool.not_eq_true] at he
          have h2 : (movedO dim n ((x : Int), (y : Int), z)).filter (endsB u v) = [] := by unfold movedO; split <;> simp [he]
          rw [h2, List.nil_append]
          exact seq_same fun m _ => flt_other hp ht he
      · rcases List.mem_append.1 ht2 with h1 | h1
        · exact h.oin t h1
        · unfold movedO at h1
          split at h1
          · rw [List.mem_singleton.1 h1]; exact ⟨x, y, hx, hy, ends_self _ _ _⟩
          · cases h1
theorem seq_nil {a b : Nat} {L : List (List Pk)} (h : ∀ n, L.getD n [] = []) : ∀ l, seqP a b L l = []
  | [] => rfl
  | n :: l => by unfold seqP flt; rw [seq_nil h l, h]; rfl
theorem fill_keep {dim i : Nat} {r : Int} {L : List (List Pk)} {a o : List Pk} (hd : dim ≤ 3) (hr : 1 ≤ r ∧ r ≤ 8) (h : Fill dim r i L a o) : Keep dim L a o ∧ ∀ p ∈ a, p.2.2 < (i : Int) := by
  induction h with
  | new =>
    refine ⟨⟨fun x y _ _ => ?_, fun p hp => (by cases hp), fun p hp => (by cases hp), List.Pairwise.nil⟩, fun p hp => (by cases hp)⟩
    rw [seq_nil (fun n => ?_)]
    · rfl
    · rw [List.getD_eq_getElem?_getD, List.getElem?_replicate]; split <;> rfl
  | skip _ ih => exact ⟨ih.1, fun p hp => by have := ih.2 p hp; omega⟩
  | @put i x y L a o h hx hy hp ih =>
    obtain ⟨ih, ihl⟩ := ih
    have hV := fill_valid hd hr h
    have hn : putN (dim : Int) ((x : Int), (y : Int), (i : Int)) = x * (dim + 1) + dim := by unfold putN; simp only [Int.toNat_natCast]
    have hlt : x * (dim + 1) + dim < L.length := by rw [hV.len]; exact at_lt hx (Nat.le_refl _)
    obtain ⟨hc, hdp, hh, _⟩ := path_facts hV.hd hx hy
    refine ⟨⟨fun u v hu hv => ?_, fun p hp => ?_, ih.oin, ?_⟩, fun p hp => ?_⟩
    · rw [List.filter_append, ← ih.inv u v hu hv, List.append_assoc]
      congr 1
      unfold putT
      rw [hn]
      have hat : ∀ m, flt u v (L.set (x * (dim + 1) + dim) (L.getD (x * (dim + 1) + dim) [] ++ [((x : Int), (y : Int), (i : Int))])) m = flt u v L m ++ (if x * (dim + 1) + dim = m then [((x : Int), (y : Int), (i : Int))] else []).filter (endsB u v) := fun m => by
        unfold flt
        rw [getD_set hlt]
        by_cases hm : x * (dim + 1) + dim = m
        · rw [if_pos hm, if_pos hm, List.filter_append, hm]
        · rw [if_neg hm, if_neg hm]; simp
      by_cases he : endsB u v ((x : Int), (y : Int), (i : Int)) = true
      · obtain ⟨rfl, rfl⟩ := ends_eq he
        cases hl : pathL dim u v with
        | nil => rw [hl] at hh; cases hh
        | cons n0 l =>
          rw [hl] at hh hdp
          obtain rfl := Option.some.inj hh
          obtain ⟨h1, _⟩ := nodup_not hdp
          unfold seqP
          rw [seq_same (L := L) (fun m hm => by rw [hat, if_neg (fun e => h1 (by rw [e]; exact hm))]; simp), hat, if_pos rfl, List.append_assoc]
      · rw [Bool.not_eq_true] at he
        rw [seq_same (L := L) (fun m hm => by rw [hat]; split <;> simp [he])]
        simp [he]
    · rcases List.mem_append.1 hp with h1 | h1
      · exact ih.ain p h1
      · rw [List.mem_singleton.1 h1]; exact ⟨x, y, hx, hy, ends_self _ _ _⟩
    · refine List.pairwise_append.2 ⟨ih.inc, List.pairwise_singleton _ _, fun p hp q hq => ?_⟩
      rw [List.mem_singleton.1 hq]; exact ihl p hp
    · rcases List.mem_append.1 hp with h1 | h1
      · have := ihl p h1; omega
      · rw [List.mem_singleton.1 h1]; dsimp only; omega
  | move h hab ih => exact ⟨keep_mv (fill_valid hd hr h) ih.1, ih.2⟩
theorem keep_cur {dim : Nat} {r : Int} {L : List (List Pk)} {a o : List Pk} (hV : Valid dim r L) (h : Keep dim L a o) : ∀ n, n ≤ L.length → Keep dim (cur dim r L n).1 a (o ++ (cur dim r L n).2)
  | 0, _ => by show Keep dim L a (o ++ []); rw [List.append_nil]; exact h
  | n + 1, hn => by
    have ih := keep_cur hV h n (by omega)
    by_cases hg : goesB dim r L n = true
    · rw [cur_t hg]
      have := keep_mv (n := n) (cur_valid hV (show n ≤ L.length by omega)) ih
      rw [List.append_assoc] at this
      exact this
    · rw [cur_f hg]; exact ih
theorem keep_round {dim : Nat} {r : Int} {L : List (List Pk)} {a o : List Pk} (hV : Valid dim r L) (h : Keep dim L a o) : Keep dim (rdB dim r L L.length).1 a (o ++ (rdB dim r L L.length).2) := by
  rw [← cur_end hV]; exact keep_cur hV h _ (Nat.le_refl _)
theorem run_keep {dim : Nat} {r : Int} {picks : List Int} {a B : List Pk} : ∀ (f : Nat) (L : List (List Pk)) (m : Nat) (o : List Pk), Valid dim r L → leftN dim L L.length = f → Keep dim L a (B ++ o) →
    ∃ L', Valid dim r L' ∧ manyN L' = 0 ∧ Keep dim L' a (B ++ (runF dim r picks f L m o).1) ∧ (runF dim r picks f L m o).2 = m + f
  | 0, L, m, o, hV, hf, hk => ⟨L, hV, left_many hf, hk, rfl⟩
  | f + 1, L, m, o, hV, hf, hk => by
    have hne : movesL dim r L L.length ≠ [] := fun e => by
      have := (moves_none hV).2 (by rw [e]; rfl); omega
    unfold runF
    rw [if_neg hne]
    obtain ⟨h1, hab⟩ := pick_able (dim := dim) (r := r) (picks := picks) (m := m) hne
    have hl := mvL_left hV hab
    obtain ⟨L', h2, h3, h4, h5⟩ := run_keep f _ (m + 1) _ (mvL_valid hV hab) (by omega) (by have := keep_mv (n := pickAt dim picks (movesL dim r L L.length) m) hV hk; rw [List.append_assoc] at this; exact this)
    exact ⟨L', h2, h3, h4, by rw [h5]; omega⟩
theorem rds_keep {dim : Nat} {r : Int} {a B : List Pk} : ∀ (f : Nat) (L : List (List Pk)) (m : Nat) (o : List Pk), Valid dim r L → leftN dim L L.length ≤ f → Keep dim L a (B ++ o) →
    ∃ L', Valid dim r L' ∧ manyN L' = 0 ∧ Keep dim L' a (B ++ (rdsF dim r f L m o).1) ∧ (rdsF dim r f L m o).2 ≤ m + leftN dim L L.length
  | 0, L, m, o, hV, hf, hk => ⟨L, hV, left_many (dim := dim) (by omega), hk, by unfold rdsF; omega⟩
  | f + 1, L, m, o, hV, hf, hk => by
    unfold rdsF
    by_cases hm : manyN L = 0
    · rw [if_pos hm]; exact ⟨L, hV, hm, hk, by omega⟩
    · rw [if_neg hm]
      have h1 := round_left hV
      have h2 := round_go hV (by omega)
      have hlen := rdB_len dim r L L.length
      obtain ⟨L', h3, h4, h5, h6⟩ := rds_keep f _ (m + 1) _ (round_valid hV L.length) (by rw [hlen]; omega) (by have := keep_round hV hk; rw [List.append_assoc] at this; exact this)
      exact ⟨L', h3, h4, h5, by rw [hlen] at h6; omega⟩
theorem many_nil {L : List (List Pk)} (h : manyN L = 0) (n : Nat) : L.getD n [] = [] := by
  rw [List.getD_eq_getElem?_getD]
  cases hl : L[n]? with
  | none => rfl
  | some l =>
    have := many_set (x := []) hl
    cases l with
    | nil => rfl
    | cons p q => rw [h] at this; simp at this
theorem keep_end {dim : Nat} {L : List (List Pk)} {a o : List Pk} (hm : manyN L = 0) (h : Keep dim L a o) : eachB a o = true ∧ Ordd o ∧ o.length = a.length := by
  have hf : ∀ x y, x < 2 ^ dim → y < 2 ^ dim → o.filter (endsB x y) = a.filter (endsB x y) := fun x y hx hy => by
    have := h.inv x y hx hy
    rw [seq_nil (many_nil hm), List.append_nil] at this; exact this
  have hcount : ∀ p, o.count p = a.count p := fun p => by
    by_cases hp : ∃ x y, x < 2 ^ dim ∧ y < 2 ^ dim ∧ endsB x y p = true
    · obtain ⟨x, y, hx, hy, he⟩ := hp
      rw [← List.count_filter (l := o) he, ← List.count_filter (l := a) he, hf x y hx hy]
    · rw [List.count_eq_zero.2 (fun hm => hp (h.oin p hm)), List.count_eq_zero.2 (fun hm => hp (h.ain p hm))]
  have hperm : o.Perm a := List.perm_iff_count.2 hcount
  have hnd : a.Nodup := h.inc.imp (fun {p q} hlt e => by rw [e] at hlt; omega)
  refine ⟨?_, ?_, hperm.length_eq⟩
  · unfold eachB
    rw [decide_eq_true hperm.length_eq.symm, Bool.true_and, List.all_eq_true]
    intro p hp
    rw [hcount, List.Nodup.count hnd, if_pos hp]; rfl
  · intro i k p q hik hi hk h1 h2
    obtain ⟨x, y, hx, hy, he⟩ := h.oin p (List.mem_of_getElem? hi)
    have hq : endsB x y q = true := by
      unfold endsB at he ⊢
      rw [← h1, ← h2]; exact he
    have hpw : (o.filter (endsB x y)).Pairwise fun p q => p.2.2 < q.2.2 := by rw [hf x y hx hy]; exact h.inc.filter _
    rw [List.pairwise_filter] at hpw
    obtain ⟨hi1, hi2⟩ := List.getElem?_eq_some_iff.1 hi
    obtain ⟨hk1, hk2⟩ := List.getElem?_eq_some_iff.1 hk
    have := List.pairwise_iff_getElem.1 hpw i k hi1 hk1 hik (by rw [hi2]; exact he) (by rw [hk2]; exact hq)
    rw [hi2, hk2] at this; exact this

/-! Two moves at switches that are neither the same nor linked. -/
def apartZ (a b : Nat) : Int := bandI .i64 ((a ^^^ b : Nat) : Int) (((a ^^^ b : Nat) : Int) - 1)
theorem apart0 : ∀ a b : Fin 8, apartZ a b ≠ 0 → a.val ≠ b.val ∧ ∀ k : Fin 3, overN a k ≠ b.val ∧ overN b k ≠ a.val := by decide +kernel
theorem apart_comm (a b : Nat) : apartZ a b = apartZ b a := by unfold apartZ; rw [Nat.xor_comm]
theorem over_inj {a b k : Nat} (ha : a < 8) (hb : b < 8) (hk : k < 3) (h : overN a k = overN b k) : a = b := by
  have h1 := over_over0 ⟨a, ha⟩ ⟨k, hk⟩
  have h2 := over_over0 ⟨b, hb⟩ ⟨k, hk⟩
  simp only at h1 h2
  rw [← h1, ← h2, h]
theorem tgt_okL {dim n : Nat} {r : Int} {L : List (List Pk)} {p : Pk} {q : List Pk} (hV : Valid dim r L) (hp : L[n]? = some (p :: q)) : tgt dim n p < 0 ∨ (tgt dim n p).toNat < L.length := by
  rcases tgt_info hV hp with h | ⟨m, _, e, hm, _⟩
  · exact .inl h.1
  · exact .inr (by rw [e, Int.toNat_natCast]; exact hm)
/-- where the two heads go -/
theorem apart_tgt {dim n m : Nat} {r : Int} {L : List (List Pk)} {p p' : Pk} {q q' : List Pk} (hV : Valid dim r L) (hn : L[n]? = some (p :: q)) (hm : L[m]? = some (p' :: q')) (ha : apartZ (n / (dim + 1)) (m / (dim + 1)) ≠ 0) :
    n ≠ m ∧ (0 ≤ tgt dim n p → (tgt dim n p).toNat ≠ m) ∧ (0 ≤ tgt dim n p → 0 ≤ tgt dim m p' → (tgt dim n p).toNat ≠ (tgt dim m p').toNat) := by
  have h8 := pow2_le dim (Nat.le_refl _) hV.hd
  have hd := hV.hd
  have hs1 := (hV.at hn).2.1
  have hs2 := (hV.at hm).2.1
  obtain ⟨hne, hk⟩ := apart0 ⟨n / (dim + 1), by omega⟩ ⟨m / (dim + 1), by omega⟩ ha
  dsimp only at hne hk
  refine ⟨fun e => hne (by rw [e]), fun h0 e => ?_, fun h0 h0' e => ?_⟩
  · rcases tgt_info hV hn with h | ⟨x, k, e1, _, hkd, e2, _⟩
    · omega
    · rw [e1, Int.toNat_natCast] at e
      have h1 := (div_at (d := dim) (m := overN (n / (dim + 1)) k) (k := k) (by omega)).1
      rw [← e2, e] at h1
      exact (hk ⟨k, by omega⟩).1 h1.symm
  · rcases tgt_info hV hn with h | ⟨x, k, e1, _, hkd, e2, _⟩
    · omega
    · rcases tgt_info hV hm with h | ⟨y, k', e1', _, hkd', e2', _⟩
      · omega
      · rw [e1, e1', Int.toNat_natCast, Int.toNat_natCast] at e
        obtain ⟨h1, h2⟩ := div_at (d := dim) (m := overN (n / (dim + 1)) k) (k := k) (by omega)
        obtain ⟨h3, h4⟩ := div_at (d := dim) (m := overN (m / (dim + 1)) k') (k := k') (by omega)
        rw [← e2, e] at h1 h2
        rw [← e2'] at h3 h4
        have hkk : k = k' := by rw [← h2, ← h4]
        subst hkk
        exact hne (over_inj (by omega) (by omega) (by omega : k < 3) (by rw [← h1, ← h3]))
theorem getD_at {L : List (List Pk)} {n : Nat} {l : List Pk} (hn : n < L.length) (h : L.getD n [] = l) : L[n]? = some l := by
  rw [List.getD_eq_getElem?_getD, List.getElem?_eq_getElem hn] at h
  rw [List.getElem?_eq_getElem hn]; exact congrArg some h
theorem movedL_len (dim n : Nat) (L : List (List Pk)) (p : Pk) (q : List Pk) : (movedL dim L n p q).length = L.length := by
  unfold movedL; split <;> simp
theorem apart_head {dim n m : Nat} {r : Int} {L : List (List Pk)} {p p' : Pk} {q q' : List Pk} (hV : Valid dim r L) (hn : L[n]? = some (p :: q)) (hm : L[m]? = some (p' :: q')) (ha : apartZ (n / (dim + 1)) (m / (dim + 1)) ≠ 0) :
    (movedL dim L n p q)[m]? = some (p' :: q') := by
  obtain ⟨h1, h2, _⟩ := apart_tgt hV hn hm ha
  refine getD_at (by rw [movedL_len]; exact (List.getElem?_eq_some_iff.1 hm).1) ?_
  rw [moved_at (List.getElem?_eq_some_iff.1 hn).1 (tgt_okL hV hn), if_neg h1, if_neg (fun h => h2 h.1 h.2), List.append_nil, getD_of hm]
theorem apart_able {dim n m : Nat} {r : Int} {L : List (List Pk)} (hV : Valid dim r L) (h1 : ableB dim r L n = true) (h2 : ableB dim r L m = true) (ha : apartZ (n / (dim + 1)) (m / (dim + 1)) ≠ 0) : ableB dim r (mvL dim L n) m = true := by
  obtain ⟨p, q, hn⟩ := able_some h1
  obtain ⟨p', q', hm⟩ := able_some h2
  have e : mvL dim L n = movedL dim L n p q := by unfold mvL; rw [hn]
  rw [e]
  obtain ⟨g1, g2, g3⟩ := apart_tgt hV hn hm ha
  obtain ⟨_, g4, _⟩ := apart_tgt hV hm hn (by rw [apart_comm]; exact ha)
  unfold ableB at h2 ⊢
  rw [hm] at h2
  rw [apart_head hV hn hm ha]
  simp only [Bool.or_eq_true, decide_eq_true_eq] at h2 ⊢
  rcases h2 with h2 | h2
  · exact .inl h2
  · by_cases h0 : tgt dim m p' < 0
    · exact .inl h0
    · right
      rw [moved_at (List.getElem?_eq_some_iff.1 hn).1 (tgt_okL hV hn), if_neg (fun h => g4 (by omega) h.symm), if_neg (fun h => g3 h.1 (by omega) h.2), List.append_nil]
      exact h2
theorem apart_same {dim n m : Nat} {r : Int} {L : List (List Pk)} (hV : Valid dim r L) (h1 : ableB dim r L n = true) (h2 : ableB dim r L m = true) (ha : apartZ (n / (dim + 1)) (m / (dim + 1)) ≠ 0) : mvL dim (mvL dim L n) m = mvL dim (mvL dim L m) n := by
  have ha' : apartZ (m / (dim + 1)) (n / (dim + 1)) ≠ 0 := by rw [apart_comm]; exact ha
  obtain ⟨p, q, hn⟩ := able_some h1
  obtain ⟨p', q', hm⟩ := able_some h2
  have e : mvL dim L n = movedL dim L n p q := by unfold mvL; rw [hn]
  have e' : mvL dim L m = movedL dim L m p' q' := by unfold mvL; rw [hm]
  have f : mvL dim (movedL dim L n p q) m = movedL dim (movedL dim L n p q) m p' q' := by unfold mvL; rw [apart_head hV hn hm ha]
  have f' : mvL dim (movedL dim L m p' q') n = movedL dim (movedL dim L m p' q') n p q := by unfold mvL; rw [apart_head hV hm hn ha']
  rw [e, e', f, f']
  obtain ⟨g1, g2, g3⟩ := apart_tgt hV hn hm ha
  obtain ⟨_, g4, _⟩ := apart_tgt hV hm hn ha'
  have ln := (List.getElem?_eq_some_iff.1 hn).1
  have lm := (List.getElem?_eq_some_iff.1 hm).1
  have tn := tgt_okL hV hn
  have tm := tgt_okL hV hm
  have key : ∀ x, (movedL dim (movedL dim L n p q) m p' q').getD x [] = (movedL dim (movedL dim L m p' q') n p q).getD x [] := fun x => by
    rw [moved_at (L := movedL dim L n p q) (n := m) (p := p') (q := q') (by rw [movedL_len]; exact lm) (by rw [movedL_len]; exact tm), moved_at (L := movedL dim L m p' q') (n := n) (p := p) (q := q) (by rw [movedL_len]; exact ln) (by rw [movedL_len]; exact tn), moved_at ln tn, moved_at lm tm]
    by_cases c1 : m = x <;> by_cases c2 : n = x <;> by_cases c3 : (0 ≤ tgt dim n p ∧ (tgt dim n p).toNat = x) <;> by_cases c4 : (0 ≤ tgt dim m p' ∧ (tgt dim m p').toNat = x) <;> simp only [c1, c2, c3, c4, if_true, if_false, and_self, List.append_nil] <;>
      first | done | rfl | (exfalso; first | (exact g1 (c2.trans c1.symm)) | (exact g2 c3.1 (c3.2.trans c1.symm)) | (exact g4 c4.1 (c4.2.trans c2.symm)) | (exact g3 c3.1 c4.1 (c3.2.trans c4.2.symm)))
  apply List.ext_getElem?
  intro x
  have hlen : (movedL dim (movedL dim L n p q) m p' q').length = (movedL dim (movedL dim L m p' q') n p q).length := by simp only [movedL_len]
  rcases Nat.lt_or_ge x (movedL dim (movedL dim L n p q) m p' q').length with hx | hx
  · rw [getD_at hx (key x), List.getElem?_eq_getElem (by rw [← hlen]; exact hx), List.getD_eq_getElem?_getD, List.getElem?_eq_getElem (by rw [← hlen]; exact hx)]; rfl
  · rw [List.getElem?_eq_none hx, List.getElem?_eq_none (by rw [← hlen]; exact hx)]

/-! A run, and all rounds, of a filled cube. -/
theorem once_run {dim nn : Nat} {r : Int} {L : List (List Pk)} {a o : List Pk} {picks : List Int} (hd : dim ≤ 3) (hr : 1 ≤ r ∧ r ≤ 8) (hV : Valid dim r L) (hF : Fill dim r nn L a o) (hn : nn ≤ 60) (h60 : picks.length ≤ 60) (hp : ∀ z ∈ picks, 0 ≤ z) :
    runE dim r L picks = 0 ∧ (runR dim r L picks).2 = leftN dim L L.length ∧ eachB a (o ++ (runR dim r L picks).1) = true ∧ Ordd (o ++ (runR dim r L picks).1) ∧ (o ++ (runR dim r L picks).1).length ≤ 60 := by
  have he := runE_ok (L := L) hV (by omega) (List.all_eq_true.2 fun z hz => decide_eq_true (hp z hz))
  obtain ⟨L', h1, h2, h3, h4⟩ := run_keep (picks := picks) (B := o) _ L 0 [] hV rfl (by rw [List.append_nil]; exact (fill_keep hd hr hF).1)
  have e : runR (dim : Int) r L picks = runF dim r picks (leftN dim L L.length) L 0 [] := by unfold runR; rw [if_pos he, Int.toNat_natCast]
  rw [e]
  obtain ⟨g1, g2, g3⟩ := keep_end h2 h3
  exact ⟨he, by rw [h4]; omega, g1, g2, by have := fill_in hF; omega⟩
theorem once_rounds {dim nn : Nat} {r : Int} {L : List (List Pk)} {a o : List Pk} (hd : dim ≤ 3) (hr : 1 ≤ r ∧ r ≤ 8) (hV : Valid dim r L) (hF : Fill dim r nn L a o) (hn : nn ≤ 60) :
    (rdsR dim r L).2 ≤ leftN dim L L.length ∧ eachB a (o ++ (rdsR dim r L).1) = true ∧ Ordd (o ++ (rdsR dim r L).1) ∧ (o ++ (rdsR dim r L).1).length ≤ 60 := by
  obtain ⟨L', h1, h2, h3, h4⟩ := rds_keep (B := o) _ L 0 [] hV (Nat.le_refl _) (by rw [List.append_nil]; exact (fill_keep hd hr hF).1)
  have e : rdsR (dim : Int) r L = rdsF dim r (leftN dim L L.length) L 0 [] := by unfold rdsR; rw [if_pos hV.chk, Int.toNat_natCast]
  rw [e]
  obtain ⟨g1, g2, g3⟩ := keep_end h2 h3
  exact ⟨by omega, g1, g2, by have := fill_in hF; omega⟩
theorem nonneg_map (l : List Nat) : ∀ z ∈ l.map fun z : Nat => (z : Int), 0 ≤ z := fun z hz => by
  obtain ⟨x, _, rfl⟩ := List.mem_map.1 hz; omega

end Go.Proofs.YtlfclnkoimfhmaaDoor

/- Further plain laws of the cube. -/
import Derived.Test.YtlfclnkoimfhmaaDoorPre
set_option linter.unusedVariables false
set_option linter.unusedSimpArgs false
namespace Go.Proofs.YtlfclnkoimfhmaaDoor
open Go Go.RowKit Go.Mix Go.Eng
/-- the number at a place of a way, the dimension of the link ahead of it, and that of the link before -/
def atN (l : List Int) (i : Nat) : Nat := (l.getD i 0).toNat
def wk (l : List Int) (i : Nat) : Nat := tzN (atN l (i - 1) ^^^ atN l i)
def lastK (l : List Int) (i : Nat) : Int := if i ≤ 1 then -1 else (wk l (i - 1) : Nat)
theorem lastK_succ {l : List Int} {i : Nat} (h : 1 ≤ i) : lastK l (i + 1) = (wk l i : Nat) := by unfold lastK; rw [if_neg (by omega)]; rfl
theorem ways0 : ∀ f : Fin 8, ∀ t : Fin 8, ∀ i : Fin 4, 1 ≤ i.val → i.val < cnt f t + 1 →
    (wayL f t)[i.val]? = some ((atN (wayL f t) i : Nat) : Int) ∧ atN (wayL f t) (i - 1) < 8 ∧ atN (wayL f t) i < 8 ∧ wk (wayL f t) i < 3 ∧ atN (wayL f t) (i - 1) ^^^ atN (wayL f t) i = 1 * 2 ^ wk (wayL f t) i ∧ lastK (wayL f t) i < (wk (wayL f t) i : Nat) ∧
      ((f.val ^^^ t.val) / 2 ^ wk (wayL f t) i &&& 1) = 1 := by decide +kernel
theorem ways_at {f t i : Nat} (hf : f < 8) (ht : t < 8) (h1 : 1 ≤ i) (h2 : i < cnt f t + 1) :
    (wayL f t)[i]? = some ((atN (wayL f t) i : Nat) : Int) ∧ atN (wayL f t) (i - 1) < 8 ∧ atN (wayL f t) i < 8 ∧ wk (wayL f t) i < 3 ∧ atN (wayL f t) (i - 1) ^^^ atN (wayL f t) i = 1 * 2 ^ wk (wayL f t) i ∧ lastK (wayL f t) i < (wk (wayL f t) i : Nat) ∧
      ((f ^^^ t) / 2 ^ wk (wayL f t) i &&& 1) = 1 := ways0 ⟨f, hf⟩ ⟨t, ht⟩ ⟨i, by have := cnt_le f t; omega⟩ h1 h2
theorem pow_inj3 {j k : Nat} (hj : j < 3) (hk : k < 3) (h : (1 * 2 ^ j : Nat) = 1 * 2 ^ k) : j = k := by
  rcases (by omega : j = 0 ∨ j = 1 ∨ j = 2) with rfl | rfl | rfl <;> rcases (by omega : k = 0 ∨ k = 1 ∨ k = 2) with rfl | rfl | rfl <;> simp_all
theorem way_zero (f t : Nat) : (wayL f t)[0]? = some ((f : Nat) : Int) := by unfold wayL; cases cnt f t <;> rfl
theorem way_last0 : ∀ f : Fin 8, ∀ t : Fin 8, (wayL f t)[cnt f t]? = some ((t.val : Nat) : Int) := by decide +kernel
theorem way_last {f t : Nat} (hf : f < 8) (ht : t < 8) : (wayL f t)[cnt f t]? = some ((t : Nat) : Int) := way_last0 ⟨f, hf⟩ ⟨t, ht⟩
theorem wayR_in {dim f t : Nat} (hd : dim ≤ 3) (hf : f < 2 ^ dim) (ht : t < 2 ^ dim) : wayE dim f t = 0 ∧ wayR dim f t = wayL f t := by
  have h : wayE dim f t = 0 := by
    unfold wayE
    rw [if_neg (by omega), Int.toNat_natCast, if_neg (by omega)]
  exact ⟨h, by unfold wayR; rw [if_pos h, Int.toNat_natCast, Int.toNat_natCast]⟩
def popT (x k : Nat) : Nat := ((List.range k).map fun j => x / 2 ^ j &&& 1).sum
theorem popT_succ (x k : Nat) : popT x (k + 1) = popT x k + (x / 2 ^ k &&& 1) := by unfold popT; rw [List.range_succ]; simp
theorem popT_le (x k : Nat) : popT x k ≤ k := by
  induction k with
  | zero => exact Nat.le_refl _
  | succ k ih => rw [popT_succ, and1]; omega
theorem popT_cnt0 : ∀ f : Fin 8, ∀ t : Fin 8, popT (f.val ^^^ t.val) 3 = cnt f t := by decide +kernel
theorem popT_cnt {f t : Nat} (hf : f < 8) (ht : t < 8) : popT (f ^^^ t) 3 = cnt f t := popT_cnt0 ⟨f, hf⟩ ⟨t, ht⟩
theorem xor_lt8 {f t : Nat} (hf : f < 8) (ht : t < 8) : f ^^^ t < 8 := Nat.xor_lt_two_pow (n := 3) hf ht
theorem at_zero (f t : Nat) : Value.int .i64 ((f : Nat) : Int) = .int .i64 ((atN (wayL f t) (1 - 1) : Nat) : Int) := by unfold wayL; cases cnt f t <;> rfl

/-! What a filled cube is. -/
def putT (dim : Nat) (L : List (List Pk)) (p : Pk) : List (List Pk) := L.set (putN dim p) (L.getD (putN dim p) [] ++ [p])
/-- a cube that was filled by packets with the numbers below i, a: those put in, o: those that came out -/
inductive Fill (dim : Nat) (r : Int) : Nat → List (List Pk) → List Pk → List Pk → Prop
  | new : Fill dim r 0 (List.replicate (2 ^ dim * (dim + 1)) []) [] []
  | skip {i : Nat} {L : List (List Pk)} {a o : List Pk} (h : Fill dim r i L a o) : Fill dim r (i + 1) L a o
  | put {i x y : Nat} {L : List (List Pk)} {a o : List Pk} (h : Fill dim r i L a o) (hx : x < 2 ^ dim) (hy : y < 2 ^ dim) (hp : putE dim r L ((x : Int), (y : Int), (i : Int)) = 0) : Fill dim r (i + 1) (putT dim L ((x : Int), (y : Int), (i : Int))) (a ++ [((x : Int), (y : Int), (i : Int))]) o
  | move {i n : Nat} {L : List (List Pk)} {a o : List Pk} (h : Fill dim r i L a o) (hab : ableB dim r L n = true) : Fill dim r i (mvL dim L n) a (o ++ mvO dim L n)
theorem new_in {dim : Nat} {r : Int} (hd : dim ≤ 3) (hr : 1 ≤ r ∧ r ≤ 8) : newE dim r = 0 ∧ newC dim r = ((dim : Int), r, List.replicate (2 ^ dim * (dim + 1)) []) ∧ Valid dim r (List.replicate (2 ^ dim * (dim + 1)) []) := by
  have h : newE (dim : Int) r = 0 := by unfold newE; rw [if_neg (by omega)]
  exact ⟨h, by unfold newC; rw [if_pos h, Int.toNat_natCast], hd, hr, by rw [Nat.mul_comm]; exact form_rep hr.1⟩
theorem do_in {dim n : Nat} {r : Int} {L : List (List Pk)} (hV : Valid dim r L) (hab : ableB dim r L n = true) :
    doE dim r L (n / (dim + 1) : Nat) (n % (dim + 1) : Nat) = 0 ∧ doC dim r L (n / (dim + 1) : Nat) (n % (dim + 1) : Nat) = ((dim : Int), r, mvL dim L n) ∧ doO dim r L (n / (dim + 1) : Nat) (n % (dim + 1) : Nat) = mvO dim L n := by
  obtain ⟨p, q, hp⟩ := able_some hab
  obtain ⟨h1, h2, h3, h4⟩ := hV.at hp
  have hn := div_mod_n n dim
  have he : doE dim r L (n / (dim + 1) : Nat) (n % (dim + 1) : Nat) = 0 := doE_ok (l := p :: q) hV h2 h4 (by rw [hn]; exact hp) (by simp; omega) (by rw [hn]; exact hab)
  refine ⟨he, ?_, ?_⟩
  · unfold doC; rw [if_pos he]; simp only [doN, Int.toNat_natCast, hn]
  · unfold doO; rw [if_pos he]; simp only [doN, Int.toNat_natCast, hn]
theorem put_in {dim a b : Nat} {r z : Int} {L : List (List Pk)} (hV : Valid dim r L) (ha : a < 2 ^ dim) (hb : b < 2 ^ dim) :
    (putE dim r L ((a : Int), (b : Int), z) = 8) ∨ (putE dim r L ((a : Int), (b : Int), z) = 0 ∧ putC dim r L ((a : Int), (b : Int), z) = ((dim : Int), r, putT dim L ((a : Int), (b : Int), z)) ∧ Valid dim r (putT dim L ((a : Int), (b : Int), z))) := by
  have hd := hV.hd
  have hlt : a * (dim + 1) + dim < L.length := by rw [hV.len]; exact at_lt ha (Nat.le_refl _)
  obtain ⟨l, hl⟩ : ∃ l, L[a * (dim + 1) + dim]? = some l := ⟨_, List.getElem?_eq_getElem hlt⟩
  by_cases h : (l.length : Int) = r
  · exact .inl (putE_full hV ha hb hl h)
  · have he := putE_ok (z := z) hV ha hb hl h
    refine .inr ⟨he, by unfold putC; rw [if_pos he]; rfl, ?_⟩
    unfold putT
    have hn : putN (dim : Int) ((a : Int), (b : Int), z) = a * (dim + 1) + dim := by unfold putN; simp only [Int.toNat_natCast]
    rw [hn, getD_of hl]
    obtain ⟨h1, h2⟩ := hV.buf hl
    refine hV.set ⟨by rw [List.length_append, List.length_singleton]; omega, fun p hp => ?_⟩
    rw [List.mem_append, List.mem_singleton] at hp
    rcases hp with hp | rfl
    · exact h2 p hp
    · obtain ⟨e1, e2⟩ := div_at (d := dim) (m := a) (k := dim) (by omega)
      rw [e1, e2]
      unfold canB; rw [if_neg (by simp only; omega), if_pos rfl]; simp
theorem Valid.thin {dim : Nat} {r : Int} {L : List (List Pk)} (hV : Valid dim r L) : thinB L = true := by
  have h1 := hV.len; have h2 := hV.hd; have h3 := prod_le hV.hd
  unfold thinB
  rw [decide_eq_true (by omega), Bool.true_and, List.all_eq_true]
  intro l hl
  obtain ⟨n, hn⟩ := List.mem_iff_getElem?.1 hl
  have := hV.le8 hn
  exact decide_eq_true (by omega)
/-- the outcome of a copy, a move, a packet put in, within an interval of blocks -/
def CubeI (I : Nat × Nat) (d r : Int) (L : List (List Pk)) (v : Value) (w : World) : Prop := ∃ (s : Option Addr) (c : Nat), v = .agg #[.int .i64 d, .int .i64 r, .slice s L.length c] ∧ BufS (Iv I.1 I.2) w s L
def DoI (I : Nat × Nat) (d r : Int) (L : List (List Pk)) (o : List Pk) (v : Value) (w : World) : Prop :=
  ∃ (s : Option Addr) (c : Nat) (so : Option Addr) (co : Nat), v = .tuple #[.agg #[.int .i64 d, .int .i64 r, .slice s L.length c], .slice so o.length co, .int .i64 0] ∧ BufS (Iv I.1 I.2) w s L ∧ PkS (Iv I.1 I.2) w so o
def PutI (I : Nat × Nat) (d r : Int) (L : List (List Pk)) (e : Int) (v : Value) (w : World) : Prop :=
  ∃ (s : Option Addr) (c : Nat), v = .tuple #[.agg #[.int .i64 d, .int .i64 r, .slice s L.length c], .int .i64 e] ∧ BufS (Iv I.1 I.2) w s L
theorem CubeR.in {lo : Nat} {d r : Int} {L : List (List Pk)} {v : Value} {w : World} (h : CubeR lo w v d r L) : CubeI (lo, w.heap.size) d r L v w := h
theorem CubeI.fr {I : Nat × Nat} {d r : Int} {L : List (List Pk)} {v : Value} {w w' : World} {S : Nat → Prop} (h : CubeI I d r L v w) (hf : Fr S w w') (hS : ∀ k, I.1 ≤ k → k < I.2 → ¬ S k) : CubeI I d r L v w' := by
  obtain ⟨s, c, rfl, h1⟩ := h
  exact ⟨s, c, rfl, h1.fr (buf_stab _) hf (fun k hk => hS k hk.1 hk.2)⟩
theorem DoQ.in {lo dim n : Nat} {r : Int} {L : List (List Pk)} {v : Value} {w : World} (hV : Valid dim r L) (hab : ableB dim r L n = true) (h : DoQ lo dim r L (n / (dim + 1) : Nat) (n % (dim + 1) : Nat) v w) : DoI (lo, w.heap.size) dim r (mvL dim L n) (mvO dim L n) v w := by
  obtain ⟨h1, h2, h3⟩ := do_in hV hab
  obtain ⟨u, o, rfl, hu, ho⟩ := h
  rw [h2] at hu
  rw [h3] at ho
  rw [h1]
  obtain ⟨s, c, rfl, hu⟩ := hu
  obtain ⟨so, co, rfl, ho⟩ := ho
  exact ⟨s, c, so, co, rfl, hu, ho⟩
theorem DoI.fr {I : Nat × Nat} {d r : Int} {L : List (List Pk)} {o : List Pk} {v : Value} {w w' : World} {S : Nat → Prop} (h : DoI I d r L o v w) (hf : Fr S w w') (hS : ∀ k, I.1 ≤ k → k < I.2 → ¬ S k) : DoI I d r L o v w' := by
  obtain ⟨s, c, so, co, rfl, h1, h2⟩ := h
  exact ⟨s, c, so, co, rfl, h1.fr (buf_stab _) hf (fun k hk => hS k hk.1 hk.2), h2.fr (pk_stab _) hf (fun k hk => hS k hk.1 hk.2)⟩
theorem PutQ.in {lo : Nat} {d r : Int} {L : List (List Pk)} {p : Pk} {v : Value} {w : World} (h : PutQ lo d r L p v w) : PutI (lo, w.heap.size) (putC d r L p).1 (putC d r L p).2.1 (putC d r L p).2.2 (putE d r L p) v w := by
  obtain ⟨u, rfl, s, c, rfl, hu⟩ := h
  exact ⟨s, c, rfl, hu⟩
theorem PutI.fr {I : Nat × Nat} {d r e : Int} {L : List (List Pk)} {v : Value} {w w' : World} {S : Nat → Prop} (h : PutI I d r L e v w) (hf : Fr S w w') (hS : ∀ k, I.1 ≤ k → k < I.2 → ¬ S k) : PutI I d r L e v w' := by
  obtain ⟨s, c, rfl, h1⟩ := h
  exact ⟨s, c, rfl, h1.fr (buf_stab _) hf (fun k hk => hS k hk.1 hk.2)⟩
/-! How many packets there are. -/
theorem fill_in {dim i : Nat} {r : Int} {L : List (List Pk)} {a o : List Pk} (h : Fill dim r i L a o) : a.length ≤ i := by
  induction h with
  | new => simp
  | skip _ ih => omega
  | put _ _ _ _ ih => simp; omega
  | move _ _ ih => exact ih
theorem many_set {n : Nat} {x : List Pk} : ∀ {L : List (List Pk)} {l : List Pk}, L[n]? = some l → manyN (L.set n x) + l.length = manyN L + x.length := by
  induction n with
  | zero =>
    intro L l h
    cases L with
    | nil => simp at h
    | cons y L => simp only [List.getElem?_cons_zero, Option.some.injEq] at h; subst h; simp [manyN]; omega
  | succ n ih =>
    intro L l h
    cases L with
    | nil => simp at h
    | cons y L =>
      rw [List.getElem?_cons_succ] at h
      have := ih h
      simp only [manyN, List.set_cons_succ, List.map_cons, List.sum_cons] at this ⊢; omega
theorem moved_many {dim n : Nat} {r : Int} {L : List (List Pk)} (hV : Valid dim r L) (hab : ableB dim r L n = true) : manyN (mvL dim L n) + (mvO dim L n).length = manyN L := by
  obtain ⟨p, q, hp⟩ := able_some hab
  obtain ⟨dn, hdn⟩ : ∃ t, t = tgt dim n p := ⟨_, rfl⟩
  have hs := many_set (x := q) hp
  unfold mvL mvO movedL movedO; rw [hp]
  dsimp only
  by_cases ht : tgt dim n p < 0
  · rw [if_pos ht, if_pos ht]; simp only [List.length_cons, List.length_nil] at hs ⊢; omega
  · rw [if_neg ht, if_neg ht]
    have hti := (tgt_info hV hp)
    have hlt : (tgt dim n p).toNat < (L.set n q).length := by
      rw [List.length_set]
      rcases hti with h | ⟨m, _, e, hm, _⟩
      · omega
      · rw [e, Int.toNat_natCast]; exact hm
    obtain ⟨l, hl⟩ : ∃ l, (L.set n q)[(tgt dim n p).toNat]? = some l := ⟨_, List.getElem?_eq_getElem hlt⟩
    have h2 := many_set (x := l ++ [p]) hl
    rw [getD_of hl]
    simp only [List.length_append, List.length_cons, List.length_nil] at h2 hs ⊢; omega
theorem put_many {dim a b : Nat} {r z : Int} {L : List (List Pk)} (hV : Valid dim r L) (ha : a < 2 ^ dim) : manyN (putT dim L ((a : Int), (b : Int), z)) = manyN L + 1 := by
  have hlt : a * (dim + 1) + dim < L.length := by rw [hV.len]; exact at_lt ha (Nat.le_refl _)
  obtain ⟨l, hl⟩ : ∃ l, L[a * (dim + 1) + dim]? = some l := ⟨_, List.getElem?_eq_getElem hlt⟩
  have hn : putN (dim : Int) ((a : Int), (b : Int), z) = a * (dim + 1) + dim := by unfold putN; simp only [Int.toNat_natCast]
  unfold putT
  rw [hn, getD_of hl]
  have := many_set (x := l ++ [((a : Int), (b : Int), z)]) hl
  rw [List.length_append, List.length_singleton] at this; omega
theorem fill_valid {dim i : Nat} {r : Int} {L : List (List Pk)} {a o : List Pk} (hd : dim ≤ 3) (hr : 1 ≤ r ∧ r ≤ 8) (h : Fill dim r i L a o) : Valid dim r L := by
  induction h with
  | new => exact (new_in hd hr).2.2
  | skip _ ih => exact ih
  | put _ hx hy hp ih =>
    rcases put_in (z := _) ih hx hy with h8 | ⟨_, _, hV⟩
    · rw [hp] at h8; cases h8
    · exact hV
  | move _ hab ih => exact mvL_valid ih hab
theorem fill_many {dim i : Nat} {r : Int} {L : List (List Pk)} {a o : List Pk} (hd : dim ≤ 3) (hr : 1 ≤ r ∧ r ≤ 8) (h : Fill dim r i L a o) : manyN L + o.length = a.length := by
  induction h with
  | new => rw [many_rep]; rfl
  | skip _ ih => exact ih
  | put h hx hy hp ih => rw [put_many (fill_valid hd hr h) hx, List.length_append, List.length_singleton]; omega
  | move h hab ih => have := moved_many (fill_valid hd hr h) hab; rw [List.length_append]; omega
theorem fill_bd {dim i : Nat} {r : Int} {L : List (List Pk)} {a o : List Pk} (hd : dim ≤ 3) (hr : 1 ≤ r ∧ r ≤ 8) (h : Fill dim r i L a o) : a.length ≤ i ∧ o.length ≤ i := by
  have h1 := fill_in h
  have h2 := fill_many hd hr h
  omega
/-- what a packet is made of -/
def sC (x : Nat × Nat × Nat) : List Value := [.int .u8 (x.1 : Nat), .int .u8 (x.2.1 : Nat), .int .u8 (x.2.2 : Nat)]
theorem sn_stab (F : Nat → Prop) : Stab F (Fl sC) := Fl.stab F sC
def FilledQ (dim : Nat) (r : Int) (v : Value) (w : World) : Prop :=
  ∃ (n : Nat) (L : List (List Pk)) (a o : List Pk) (s : Option Addr) (c : Nat) (sa : Option Addr) (ca : Nat) (so : Option Addr) (co : Nat), v = .tuple #[.agg #[.int .i64 dim, .int .i64 r, .slice s L.length c], .slice sa a.length ca, .slice so o.length co, .bool true] ∧
    BufS (fun k => k < w.heap.size) w s L ∧ PkS (fun k => k < w.heap.size) w sa a ∧ PkS (fun k => k < w.heap.size) w so o ∧ n ≤ 60 ∧ Valid dim r L ∧ Fill dim r n L a o
theorem own_pkS {w : World} {n c : Nat} {s : Option Addr} {l : List Pk} (h : OwnS w 41 3 s n c (l.flatMap pkC)) : PkS (fun k => k < w.heap.size) w s l :=
  h.sl (by decide) rfl (fun _ _ => rfl) (fun _ hk => h.lt hk)
theorem rn_quo8 {P : Program} {N : Nat} {ρ : Nat → Value} {w : World} {d : Option Tmp} {t : TypeId} {p : String} {a : Array Edge} {g : Option (Nat × Bool)} {x y : Operand} {T Ty : TypeId} {m n : Nat} (hx : ev N ρ x = .int .u8 (m : Int)) (hy : ev N ρ y = .int .u8 (n : Int)) (h : m < 256 ∧ 0 < n) :
    Rn P N ⟨d, .binOp .quo T x y Ty, t, p, a, g⟩ ρ w (.int .u8 ((m / n : Nat) : Int)) w :=
  rn_bin hx hy (by
    have h1 : m / n < 256 := Nat.lt_of_le_of_lt (Nat.div_le_self m n) h.1
    have h2 : IntKind.u8.wrap (((m / n : Nat) : Int)) = ((m / n : Nat) : Int) := by
      have h3 : (0 : Int) ≤ (m : Int) / (n : Int) := Int.ediv_nonneg (by omega) (by omega)
      simp [IntKind.wrap, IntKind.bits, IntKind.signed]; omega
    simp [binOp, Op.intDiv, show n ≠ 0 by omega, Int.tdiv_eq_ediv_of_nonneg (Int.natCast_nonneg m)]
    simpa using h2)
def nC (z : Nat) : List Value := [.int .u8 (z : Nat)]
theorem pick_snoc {l : List Nat} {i z n c : Nat} {w : World} {s : Option Addr} (hz : l[i]? = some z) (h : OwnS w 3 1 s n c (((l.take i).map fun z : Nat => (z : Int)).flatMap intC ++ ([.int .i64 (z : Nat)] ++ []))) : OwnS w 3 1 s n c (((l.take (i + 1)).map fun z : Nat => (z : Int)).flatMap intC) := by
  rw [List.take_add_one, hz, List.map_append, List.flatMap_append]; exact h
theorem picks_ok {l : List Nat} {i m c : Nat} {w : World} {lo : Nat} {s : Option Addr} (hi : i ≤ l.length) (h : i = 60 ∨ (i < 60 ∧ i = l.length)) (hm : m = i) (ho : OwnS w 3 1 s m c (((l.take i).map fun z : Nat => (z : Int)).flatMap intC)) (hg : ∀ k, ob s k → lo ≤ k) :
    IntR lo w (.slice s m c) ((l.take 60).map fun z : Nat => (z : Int)) := by
  have e : l.take i = l.take 60 := by
    rcases h with h | ⟨h1, h2⟩
    · rw [h]
    · rw [List.take_of_length_le (by omega), List.take_of_length_le (by omega)]
  exact own_int ho (by rw [List.length_map, List.length_take]; omega) (by rw [e]) hg
/-! The same packets in two lists. -/
def eachB (a b : List Pk) : Bool := decide (a.length = b.length) && a.all fun x => decide (b.count x = 1)
theorem pk_eq' {p q : Pk} (h : p.1 = q.1 ∧ p.2.1 = q.2.1 ∧ p.2.2 = q.2.2) : p = q := Prod.ext h.1 (Prod.ext h.2.1 h.2.2)
theorem pk_ne' {p q : Pk} (h : ¬ (p.1 = q.1 ∧ p.2.1 = q.2.1 ∧ p.2.2 = q.2.2)) : p ≠ q := fun e => h (by rw [e]; exact ⟨rfl, rfl, rfl⟩)
theorem cnt_t {l : List Pk} {k : Nat} {x y : Pk} (hy : l[k]? = some y) (h : x = y) : (l.take (k + 1)).count x = (l.take k).count x + 1 := by
  rw [List.take_add_one, hy, List.count_append, h]; simp
theorem cnt_f {l : List Pk} {k : Nat} {x y : Pk} (hy : l[k]? = some y) (h : x ≠ y) : (l.take (k + 1)).count x = (l.take k).count x := by
  rw [List.take_add_one, hy, List.count_append]; simp [List.count_cons, h.symm]
theorem cnt_le_take {l : List Pk} (x : Pk) (k : Nat) : (l.take k).count x ≤ l.length := Nat.le_trans List.count_le_length (by rw [List.length_take]; omega)
theorem cnt_end {l : List Pk} (x : Pk) {k : Nat} (h : l.length ≤ k) : (l.take k).count x = l.count x := by rw [List.take_of_length_le h]
theorem each_step {a b : List Pk} {i : Nat} {x : Pk} (hq : (a.take i).all (fun x => decide (b.count x = 1)) = true) (hx : a[i]? = some x) (h : b.count x = 1) : (a.take (i + 1)).all (fun x => decide (b.count x = 1)) = true := by
  rw [List.take_add_one, List.all_append, hq, hx]; simp [h]
theorem each_len {a b : List Pk} (h : ¬ (a.length : Int) = (b.length : Int)) : Value.bool false = .bool (eachB a b) := by unfold eachB; rw [decide_eq_false (by omega)]; rfl
theorem each_no {a b : List Pk} {i : Nat} {x : Pk} (hx : a[i]? = some x) (h : ¬ b.count x = 1) : Value.bool false = .bool (eachB a b) := by
  have : a.all (fun x => decide (b.count x = 1)) = false := by
    rw [List.all_eq_false]
    exact ⟨x, List.mem_of_getElem? hx, by simpa using h⟩
  unfold eachB; rw [this, Bool.and_false]
theorem each_yes {a b : List Pk} {i : Nat} (hl : ¬ ¬ (a.length : Int) = (b.length : Int)) (hq : (a.take i).all (fun x => decide (b.count x = 1)) = true) (hi : a.length ≤ i) : Value.bool true = .bool (eachB a b) := by
  rw [List.take_of_length_le hi] at hq
  unfold eachB; rw [decide_eq_true (by omega), hq]; rfl
/-- of packets with the same ends that with the smaller load came first -/
def Ordd (l : List Pk) : Prop := ∀ (i k : Nat) (x y : Pk), i < k → l[i]? = some x → l[k]? = some y → x.1 = y.1 → x.2.1 = y.2.1 → x.2.2 < y.2.2
theorem own_app1 {w : World} {s : Option Addr} {n c : Nat} {l : List Pk} {x y z : Int} (h : OwnS w 41 3 s n c (l.flatMap pkC ++ [.int .i64 x, .int .i64 y, .int .i64 z])) : OwnS w 41 3 s n c ((l ++ [(x, y, z)]).flatMap pkC) := by
  rw [List.flatMap_append]; exact h

theorem left_eq {dim : Nat} {r : Int} {L : List (List Pk)} (hV : Valid dim r L) : leftQ dim r L = leftN dim L L.length := by unfold leftQ; rw [if_pos hV.chk, Int.toNat_natCast]
theorem leftV {P : Program} {f : FuncId} {args : List Value} {S : Nat → Prop} {w : World} {dim : Nat} {r : Int} {L : List (List Pk)} (hV : Valid dim r L) (h : CT P f args w S (fun v _ => v = .tuple #[.int .i64 (leftQ dim r L : Nat), .int .i64 (chkE dim r L)])) :
    CT P f args w S (fun v _ => v = .tuple #[.int .i64 (leftN dim L L.length : Nat), .int .i64 0]) := by rw [left_eq hV, hV.chk] at h; exact h
theorem doV {P : Program} {f : FuncId} {args : List Value} {S : Nat → Prop} {w : World} {lo dim n : Nat} {r : Int} {L : List (List Pk)} (hV : Valid dim r L) (hab : ableB dim r L n = true) (h : CT P f args w S (fun v w' => DoQ lo dim r L (n / (dim + 1) : Nat) (n % (dim + 1) : Nat) v w')) :
    CT P f args w S (fun v w' => ∃ (s : Option Addr) (c : Nat) (so : Option Addr) (co : Nat), v = .tuple #[.agg #[.int .i64 dim, .int .i64 r, .slice s (mvL dim L n).length c], .slice so (mvO dim L n).length co, .int .i64 0] ∧ BufS (Iv lo w'.heap.size) w' s (mvL dim L n) ∧ PkS (Iv lo w'.heap.size) w' so (mvO dim L n)) :=
  h.mono (fun _ _ h => h) fun v w' _ hq => hq.in hV hab
theorem putT_len (dim : Nat) (L : List (List Pk)) (p : Pk) : (putT dim L p).length = L.length := by unfold putT; rw [List.length_set]
theorem left_put {dim a b : Nat} {r z : Int} {L : List (List Pk)} (hV : Valid dim r L) (ha : a < 2 ^ dim) : leftN dim (putT dim L ((a : Int), (b : Int), z)) L.length = leftN dim L L.length + (wayL a b).length := by
  have hlt : a * (dim + 1) + dim < L.length := by rw [hV.len]; exact at_lt ha (Nat.le_refl _)
  have hn : putN (dim : Int) ((a : Int), (b : Int), z) = a * (dim + 1) + dim := by unfold putN; simp only [Int.toNat_natCast]
  unfold putT
  rw [hn]
  have h1 := leftN_set (dim := dim) (x := L.getD (a * (dim + 1) + dim) [] ++ [((a : Int), (b : Int), z)]) hlt hlt
  rw [leftB_snoc] at h1
  have h2 : wayN dim (a * (dim + 1) + dim) ((a : Int), (b : Int), z) = (wayL a b).length := by
    unfold wayN
    rw [(div_at (d := dim) (m := a) (k := dim) (by omega)).1]
    simp only [Int.toNat_natCast]
  omega
theorem mvL_left {dim n : Nat} {r : Int} {L : List (List Pk)} (hV : Valid dim r L) (hab : ableB dim r L n = true) : leftN dim (mvL dim L n) (mvL dim L n).length + 1 = leftN dim L L.length := by
  obtain ⟨p, q, hp⟩ := able_some hab
  have h1 := (moved_valid hV hp hab).2
  have h2 := mvL_len dim n L
  have e : mvL dim L n = movedL dim L n p q := by unfold mvL; rw [hp]
  rw [h2, e]; exact h1
theorem moves_none {dim : Nat} {r : Int} {L : List (List Pk)} (hV : Valid dim r L) : leftN dim L L.length = 0 ↔ (movesL dim r L L.length).length = 0 := by
  constructor
  · intro h
    have hm := left_many h
    cases hx : movesL dim r L L.length with
    | nil => rfl
    | cons x l =>
      exfalso
      obtain ⟨n, hn, hab, _⟩ := moves_at (k := 0) (x := x) (by rw [hx]; rfl)
      obtain ⟨p, q, hp⟩ := able_some hab
      have := many_set (x := []) hp
      rw [hm] at this
      simp at this
  · intro h
    rcases Nat.eq_zero_or_pos (manyN L) with h1 | h1
    · exact many_left h1
    · obtain ⟨n, hn, hab⟩ := never_stuck hV h1
      exfalso
      have : (n / (dim + 1), n % (dim + 1)) ∈ movesL dim r L L.length := by
        unfold movesL
        rw [List.mem_map]
        exact ⟨n, List.mem_filter.2 ⟨List.mem_range.2 hn, hab⟩, rfl⟩
      have := List.length_pos_of_mem this
      omega
theorem fill_left {dim i : Nat} {r : Int} {L : List (List Pk)} {a o : List Pk} (hd : dim ≤ 3) (hr : 1 ≤ r ∧ r ≤ 8) (h : Fill dim r i L a o) : leftN dim L L.length ≤ 4 * a.length := by
  induction h with
  | new => rw [many_left (many_rep _)]; omega
  | skip _ ih => exact ih
  | @put i x y L a o h hx hy hp ih =>
    rw [putT_len, left_put (fill_valid hd hr h) hx, List.length_append, List.length_singleton]
    have := way_size x y; have := cnt_le x y; omega
  | move h hab ih => have := mvL_left (fill_valid hd hr h) hab; omega
theorem nat_of_map {l : List Nat} {i : Nat} {z : Int} (h : (l.map fun z : Nat => (z : Int))[i]? = some z) : ∃ k : Nat, z = (k : Int) := by
  rw [List.getElem?_map] at h
  cases hx : l[i]? with
  | none => rw [hx] at h; cases h
  | some x => rw [hx] at h; exact ⟨x, (Option.some.inj h).symm⟩
theorem left_go {dim : Nat} {r : Int} {L : List (List Pk)} (hV : Valid dim r L) (h : 0 < leftN dim L L.length) : 0 < goN dim r L L.length := by
  refine round_go hV (Nat.pos_of_ne_zero fun e => ?_)
  rw [many_left e] at h; omega
theorem IntS.on {F F' S : Nat → Prop} {w w' : World} {s : Option Addr} {l : List Int} (h : IntS F w s l) (hf : Fr S w w') (hS : ∀ k, F k → ¬ S k) (h1 : ∀ k, F k → F' k) : IntS F' w' s l := fun i x hi => by
  obtain ⟨b, o, h2, h3, h4⟩ := (h.fr (int_stab _) hf hS) i x hi
  exact ⟨b, o, h2, h1 b h3, h4⟩
theorem rn_bneq {P : Program} {N : Nat} {ρ : Nat → Value} {w : World} {d : Option Tmp} {t : TypeId} {p : String} {a : Array Edge} {g : Option (Nat × Bool)} {x y : Operand} {T Ty : TypeId} {m n : Bool} (hT : P.underlying T = some .bool) (hx : ev N ρ x = .bool m) (hy : ev N ρ y = .bool n) :
    Rn P N ⟨d, .binOp .neq T x y Ty, t, p, a, g⟩ ρ w (.bool (decide (m ≠ n))) w :=
  ⟨fun _ h => (by cases h), by
    have he : (eqGuard .neq T x y (.bool m) (.bool n)).run P w = .ok () w := by unfold eqGuard; simp
    have h : (binOp .neq T (.bool m) (.bool n)).run P w = .ok (.bool (decide (m ≠ n))) w := by cases m <;> cases n <;> simp [go_sem, hT]
    simp [execOp, hx, hy, he, h]⟩

end Go.Proofs.YtlfclnkoimfhmaaDoor

/- Plain laws of the cube, its rounds and runs, and the forms in which values are read. -/
import Derived.Test.YtlfclnkoimfhmaaDoorMap
set_option linter.unusedVariables false
set_option linter.unusedSimpArgs false
namespace Go.Proofs.YtlfclnkoimfhmaaDoor
open Go Go.RowKit Go.Mix Go.Eng
theorem pow2_succ (k : Nat) : (Value.int .i64 ((2 ^ k * 2 : Nat) : Int)) = .int .i64 ((2 ^ (k + 1) : Nat) : Int) := by rw [Nat.pow_succ]
theorem pow2_le (k : Nat) {d : Nat} (h : k ≤ d) (hd : d ≤ 3) : 2 ^ k ≤ 8 := Nat.pow_le_pow_right (n := 2) (by decide) (show k ≤ 3 by omega)
theorem pow2_end {k d : Nat} (hk : k ≤ d) (h : ¬ ((k : Int) < (d : Int))) : (Value.int .i64 ((2 ^ k : Nat) : Int)) = .int .i64 ((2 ^ d : Nat) : Int) := by rw [show k = d by omega]
/-- the lowest bit in which two switches differ -/
def bitN (a b : Nat) : Int := if a % 2 ≠ b % 2 then 0 else if a / 2 % 2 ≠ b / 2 % 2 then 1 else if a / 4 % 2 ≠ b / 4 % 2 then 2 else -1
def BitSame (k a b : Nat) : Prop := ∀ j, j < k → a / 2 ^ j % 2 = b / 2 ^ j % 2
theorem bitSame0 (a b : Nat) : BitSame 0 a b := fun j hj => by omega
theorem and1 (a : Nat) : a &&& 1 = a % 2 := Nat.and_one_is_mod a
theorem bitSame_succ {k a b : Nat} (h : BitSame k a b) (hne : ¬ (((a / 2 ^ k &&& 1 : Nat) : Int) ≠ ((b / 2 ^ k &&& 1 : Nat) : Int))) : BitSame (k + 1) a b := fun j hj => by
  rcases Nat.lt_or_ge j k with h1 | h1
  · exact h j h1
  · obtain rfl : j = k := by omega
    rw [and1, and1] at hne; omega
theorem bit_found {k a b : Nat} (h : BitSame k a b) (hk : (k : Int) < 3) (hne : ((a / 2 ^ k &&& 1 : Nat) : Int) ≠ ((b / 2 ^ k &&& 1 : Nat) : Int)) : (Value.int .i64 (k : Int)) = .int .i64 (bitN a b) := by
  rw [and1, and1] at hne
  have hne : a / 2 ^ k % 2 ≠ b / 2 ^ k % 2 := by omega
  congr 1
  unfold bitN
  rcases (by omega : k = 0 ∨ k = 1 ∨ k = 2) with rfl | rfl | rfl
  · rw [if_pos (by simpa using hne)]; rfl
  · have h0 := h 0 (by omega)
    rw [if_neg (by simpa using h0), if_pos (by simpa using hne)]; rfl
  · have h0 := h 0 (by omega)
    have h1 := h 1 (by omega)
    rw [if_neg (by simpa using h0), if_neg (by simpa using h1), if_pos (by simpa using hne)]; rfl
theorem bit_none {k a b : Nat} (h : BitSame k a b) (hk : k ≤ 3) (hlt : ¬ ((k : Int) < 3)) (ha : a < 8) (hb : b < 8) : (Value.int .i64 (-1)) = .int .i64 (bitN a b) := by
  obtain rfl : k = 3 := by omega
  have h0 := h 0 (by omega)
  have h1 := h 1 (by omega)
  have h2 := h 2 (by omega)
  unfold bitN
  rw [if_neg (by simpa using h0), if_neg (by simpa using h1), if_neg (by simpa using h2)]
/-- over the link of a dimension -/
def overN (s k : Nat) : Nat := if s / 2 ^ k % 2 = 1 then s - 2 ^ k else s + 2 ^ k
theorem over_le {s k : Nat} (h : ((s / 2 ^ k &&& 1 : Nat) : Int) = 1) : 2 ^ k ≤ s := by
  rw [and1] at h
  rcases Nat.lt_or_ge s (2 ^ k) with h1 | h1
  · rw [Nat.div_eq_of_lt h1] at h; omega
  · exact h1
theorem over_t {s k : Nat} (h : ((s / 2 ^ k &&& 1 : Nat) : Int) = 1) : (Value.int .i64 ((s - 2 ^ k : Nat) : Int)) = .int .i64 (overN s k : Nat) := by
  rw [and1] at h; unfold overN; rw [if_pos (by omega)]
theorem over_f {s k : Nat} (h : ¬ ((s / 2 ^ k &&& 1 : Nat) : Int) = 1) : (Value.int .i64 ((s + 2 ^ k : Nat) : Int)) = .int .i64 (overN s k : Nat) := by
  rw [and1] at h; unfold overN; rw [if_neg (by omega)]
def cnt (a b : Nat) : Nat := (if a % 2 ≠ b % 2 then 1 else 0) + (if a / 2 % 2 ≠ b / 2 % 2 then 1 else 0) + (if a / 4 % 2 ≠ b / 4 % 2 then 1 else 0)
theorem cnt_le (a b : Nat) : cnt a b ≤ 3 := by unfold cnt; split <;> split <;> split <;> omega
def wayFrom : Nat → Nat → Nat → List Int
  | 0, a, _ => [(a : Int)]
  | f + 1, a, b => (a : Int) :: wayFrom f (overN a (bitN a b).toNat) b
def wayL (a b : Nat) : List Int := wayFrom (cnt a b) a b
theorem way_start (a b : Nat) : [(a : Int)] ++ (wayFrom (cnt a b) a b).drop 1 = wayL a b := by
  unfold wayL; cases cnt a b <;> rfl
theorem fin8 {p : Nat → Nat → Prop} [∀ a b, Decidable (p a b)] (h : ∀ a : Fin 8, ∀ b : Fin 8, p a b) {a b : Nat} (ha : a < 8) (hb : b < 8) : p a b := h ⟨a, ha⟩ ⟨b, hb⟩
theorem bit_nat {a b : Nat} (h : (0 : Int) ≤ bitN a b) : ∃ k : Nat, bitN a b = (k : Int) ∧ k < 3 := by
  unfold bitN at *
  split
  · exact ⟨0, rfl, by omega⟩
  · split
    · exact ⟨1, rfl, by omega⟩
    · split
      · exact ⟨2, rfl, by omega⟩
      · rename_i h1 h2 h3
        rw [if_neg h1, if_neg h2, if_neg h3] at h; omega
theorem cnt_step0 : ∀ a : Fin 8, ∀ b : Fin 8, (0 : Int) ≤ bitN a b → cnt (overN a (bitN a b).toNat) b + 1 = cnt a b := by decide
theorem over_lt0 : ∀ a : Fin 8, ∀ k : Fin 3, overN a k < 8 := by decide
theorem cnt_zero0 : ∀ a : Fin 8, ∀ b : Fin 8, ¬ (0 : Int) ≤ bitN a b → cnt a b = 0 := by decide
theorem cnt_step {a b k : Nat} (ha : a < 8) (hb : b < 8) (h : bitN a b = (k : Int)) : cnt (overN a k) b + 1 = cnt a b := by
  have := cnt_step0 ⟨a, ha⟩ ⟨b, hb⟩ (by show (0 : Int) ≤ bitN a b; omega)
  simp only [h, Int.toNat_natCast] at this; exact this
theorem over_lt {a k : Nat} (ha : a < 8) (hk : k < 3) : overN a k < 8 := over_lt0 ⟨a, ha⟩ ⟨k, hk⟩
theorem way_step {a b k : Nat} {l : List Int} {r : List Int} (hl : l ++ (wayFrom (cnt a b) a b).drop 1 = r) (h : bitN a b = (k : Int)) (hc : cnt (overN a k) b + 1 = cnt a b) :
    (l ++ [((overN a k : Nat) : Int)]) ++ (wayFrom (cnt (overN a k) b) (overN a k) b).drop 1 = r := by
  rw [← hl, ← hc]
  simp only [wayFrom, h, Int.toNat_natCast, List.drop_succ_cons, List.drop_zero, List.append_assoc]
  congr 1
  cases cnt (overN a k) b <;> rfl
theorem way_end {a b : Nat} {l r : List Int} (hl : l ++ (wayFrom (cnt a b) a b).drop 1 = r) (h : ¬ (0 : Int) ≤ bitN a b) (ha : a < 8 := by assumption) (hb : b < 8 := by assumption) : l = r := by
  have := cnt_zero0 ⟨a, ha⟩ ⟨b, hb⟩ h
  simp only at this
  rw [← hl, this]; simp [wayFrom]
/-- a value that reads as a list of integers -/
def IntR (lo : Nat) (w : World) (v : Value) (l : List Int) : Prop := ∃ s c, v = .slice s l.length c ∧ IntS (Iv lo w.heap.size) w s l
theorem own_int {w : World} {e : TypeId} {s : Option Addr} {n c lo : Nat} {l r : List Int} (h : OwnS w e 1 s n c (l.flatMap intC)) (hn : n = l.length) (hr : l = r) (hge : ∀ k, ob s k → lo ≤ k) : IntR lo w (.slice s n c) r := by
  subst hn; subst hr
  exact ⟨s, c, rfl, h.sl (by decide) rfl (fun _ _ => rfl) (fun k hk => ⟨hge k hk, h.lt hk⟩)⟩
theorem own_snoc {w : World} {e : TypeId} {s : Option Addr} {n c : Nat} {l : List Int} {z : Int} (h : OwnS w e 1 s n c (l.flatMap intC ++ ([.int .i64 z] ++ []))) : OwnS w e 1 s n c ((l ++ [z]).flatMap intC) := by
  rw [List.flatMap_append]; exact h

abbrev Pk := Int × Int × Int
def pkC (p : Pk) : List Value := [.int .i64 p.1, .int .i64 p.2.1, .int .i64 p.2.2]
def pkV (p : Pk) : Value := .agg #[.int .i64 p.1, .int .i64 p.2.1, .int .i64 p.2.2]
abbrev PkS (F : Nat → Prop) (w : World) (s : Option Addr) (l : List Pk) : Prop := Sl F w s 3 l (Fl pkC)
abbrev BufS (F : Nat → Prop) (w : World) (s : Option Addr) (L : List (List Pk)) : Prop := Sl F w s 1 L (SlC F 3 (Fl pkC))
theorem pk_stab (F : Nat → Prop) : Stab F (Fl pkC) := Fl.stab F pkC
theorem int_stab (F : Nat → Prop) : Stab F (Fl intC) := Fl.stab F intC
theorem buf_stab (F : Nat → Prop) : Stab F (SlC F 3 (Fl pkC)) := SlC.stab (pk_stab F)
theorem getx {α : Type} {l : List α} {i : Nat} (h : (i : Int) < (l.length : Int)) : ∃ x, l[i]? = some x := ⟨_, List.getElem?_eq_getElem (by omega)⟩
section eqs
variable {α : Type} {a b : List α} {i : Nat} {x y : α}
theorem eqs_step (h : a.take i = b.take i) (hx : a[i]? = some x) (hy : b[i]? = some y) (e : x = y) : a.take (i + 1) = b.take (i + 1) := by
  rw [List.take_add_one, List.take_add_one, h, hx, hy, e]
theorem eqs_end (h : a.take i = b.take i) (hl : a.length = b.length) (hi : ¬ (i : Int) < (a.length : Int)) : a = b := by
  rwa [List.take_of_length_le (by omega), List.take_of_length_le (by omega)] at h
theorem eqs_ne (hx : a[i]? = some x) (hy : b[i]? = some y) (hne : ¬ x = y) : ¬ a = b := fun e => hne (by subst e; rw [hx] at hy; exact Option.some.inj hy)
end eqs
theorem no_dec {q : Prop} [Decidable q] (h : ¬ q) : Value.bool false = .bool (decide q) := by rw [decide_eq_false h]
theorem yes_dec {q : Prop} [Decidable q] (h : q) : Value.bool true = .bool (decide q) := by rw [decide_eq_true h]
theorem pk_ne {x y : Pk} (h : ¬ (x.1 = y.1 ∧ x.2.1 = y.2.1 ∧ x.2.2 = y.2.2)) : ¬ x = y := fun e => h (by subst e; exact ⟨rfl, rfl, rfl⟩)
theorem pk_eq {x y : Pk} (h : ¬ ¬ (x.1 = y.1 ∧ x.2.1 = y.2.1 ∧ x.2.2 = y.2.2)) : x = y := by
  have := Decidable.not_not.1 h
  exact Prod.ext this.1 (Prod.ext this.2.1 this.2.2)
theorem len_ne {α : Type} {a b : List α} (h : ((a.length : Nat) : Int) ≠ (b.length : Int)) : ¬ a = b := fun e => h (by rw [e])
/-- not more than the statements look at -/
def thinB (L : List (List Pk)) : Bool := decide (L.length ≤ 40) && L.all fun l => decide (l.length ≤ 12)
theorem thin_no {L : List (List Pk)} (h : (40 : Int) < (L.length : Int)) : Value.bool false = .bool (thinB L) := by
  congr 1; unfold thinB; rw [decide_eq_false (by omega)]; rfl
theorem thin_no2 {L : List (List Pk)} {i : Nat} {l : List Pk} (hl : L[i]? = some l) (h : (12 : Int) < (l.length : Int)) : Value.bool false = .bool (thinB L) := by
  congr 1; unfold thinB
  have : L.all (fun l => decide (l.length ≤ 12)) = false := by
    rw [List.all_eq_false]; exact ⟨l, List.mem_of_getElem? hl, by simp; omega⟩
  rw [this, Bool.and_false]
theorem all_step {α : Type} {p : α → Bool} {L : List α} {i : Nat} {l : α} (h : (L.take i).all p = true) (hl : L[i]? = some l) (hp : p l = true) : (L.take (i + 1)).all p = true := by
  rw [List.take_add_one, List.all_append, h, hl]; simp [hp]
theorem all_end {α : Type} {p : α → Bool} {L : List α} {i : Nat} (h : (L.take i).all p = true) (hi : ¬ (i : Int) < (L.length : Int)) : L.all p = true := by
  rwa [List.take_of_length_le (by omega)] at h
theorem thin_yes {L : List (List Pk)} {i : Nat} (h1 : ¬ (40 : Int) < (L.length : Int)) (h : (L.take i).all (fun l => decide (l.length ≤ 12)) = true) (hi : ¬ (i : Int) < (L.length : Int)) : Value.bool true = .bool (thinB L) := by
  congr 1; unfold thinB; rw [all_end h hi, decide_eq_true (by omega)]; rfl
def manyN (L : List (List Pk)) : Nat := (L.map List.length).sum
theorem many_step {L : List (List Pk)} {i : Nat} {l : List Pk} (hl : L[i]? = some l) : manyN (L.take (i + 1)) = manyN (L.take i) + l.length := by
  unfold manyN; rw [List.take_add_one, hl]; simp
theorem many_le (L : List (List Pk)) (i : Nat) : manyN (L.take i) ≤ manyN L := by
  unfold manyN
  have : (L.map List.length).sum = ((L.take i).map List.length).sum + ((L.drop i).map List.length).sum := by rw [← List.sum_append, ← List.map_append, List.take_append_drop]
  omega
/-- the lengths that a count can hold -/
def Bd (L : List (List Pk)) : Prop := L.length ≤ 1048576 ∧ manyN L ≤ 1048576
theorem many_get {L : List (List Pk)} {i : Nat} {l : List Pk} (hl : L[i]? = some l) : l.length ≤ manyN L := by
  have h1 := many_step hl
  have h2 := many_le L (i + 1)
  omega
theorem Bd.get {L : List (List Pk)} {i : Nat} {l : List Pk} (h : Bd L) (hl : L[i]? = some l) : l.length ≤ 1048576 := Nat.le_trans (many_get hl) h.2
theorem many_end {L : List (List Pk)} {i : Nat} (hi : ¬ (i : Int) < (L.length : Int)) : manyN (L.take i) = manyN L := by rw [List.take_of_length_le (by omega)]
theorem wayFrom_len : ∀ f a b, (wayFrom f a b).length = f + 1
  | 0, _, _ => rfl
  | f + 1, a, b => by simp [wayFrom, wayFrom_len f]
theorem way_len (a b : Nat) : (wayL a b).length ≤ 4 := by have := cnt_le a b; unfold wayL; rw [wayFrom_len]; omega
/-- where a packet can be -/
def hop (l : List Int) (s q : Nat) : Bool := (List.range l.length).any fun i => decide (1 ≤ i) && (decide (l[i]? = some (s : Int)) && decide (l[i - 1]? = some (q : Int)))
def canB (dim : Nat) (p : Pk) (s port : Nat) : Bool :=
  if p.1 < 0 ∨ ((2 ^ dim : Nat) : Int) ≤ p.1 ∨ p.2.1 < 0 ∨ ((2 ^ dim : Nat) : Int) ≤ p.2.1 then false
  else if port = dim then decide (p.1 = (s : Int))
  else hop (wayL p.1.toNat p.2.1.toNat) s (overN s port)
theorem can_out {dim s port : Nat} {p : Pk} (h : p.1 < 0 ∨ ((2 ^ dim : Nat) : Int) ≤ p.1 ∨ p.2.1 < 0 ∨ ((2 ^ dim : Nat) : Int) ≤ p.2.1) : Value.bool false = .bool (canB dim p s port) := by unfold canB; rw [if_pos h]
theorem can_home {dim s port a b : Nat} {l : Int} (h1 : a < 2 ^ dim) (h2 : b < 2 ^ dim) (h : (port : Int) = (dim : Int)) : Value.bool (decide ((a : Int) = (s : Int))) = .bool (canB dim ((a : Int), (b : Int), l) s port) := by
  unfold canB; rw [if_neg (by simp only; omega), if_pos (by omega)]
theorem can_way {dim s port a b : Nat} {l : Int} (h1 : a < 2 ^ dim) (h2 : b < 2 ^ dim) (h : ¬ (port : Int) = (dim : Int)) : canB dim ((a : Int), (b : Int), l) s port = hop (wayL a b) s (overN s port) := by
  unfold canB; rw [if_neg (by simp only; omega), if_neg (by omega)]; simp
def noHop (l : List Int) (s q i : Nat) : Prop := ∀ j, 1 ≤ j → j < i → ¬ (l[j]? = some (s : Int) ∧ l[j - 1]? = some (q : Int))
theorem hop_yes {l : List Int} {s q i : Nat} {x y : Int} (h0 : 1 ≤ i) (hx : l[i]? = some x) (hy : l[i - 1]? = some y) (h1 : x = (s : Int)) (h2 : y = (q : Int)) : hop l s q = true := by
  unfold hop
  rw [List.any_eq_true]
  exact ⟨i, List.mem_range.2 (List.getElem?_eq_some_iff.1 hx).1, by simp [h0, hx, hy, h1, h2]⟩
theorem hop_no {l : List Int} {s q i : Nat} (h : noHop l s q i) (hi : ¬ (i : Int) < (l.length : Int)) : hop l s q = false := by
  unfold hop
  rw [List.any_eq_false]
  intro j hj
  have hj := List.mem_range.1 hj
  by_cases h1 : 1 ≤ j
  · have := h j h1 (by omega)
    simp only [h1, decide_true, Bool.true_and, Bool.and_eq_true, decide_eq_true_eq]
    exact this
  · simp [h1]
theorem noHop_step {l : List Int} {s q i : Nat} {x y : Int} (h : noHop l s q i) (hx : l[i]? = some x) (hy : l[i - 1]? = some y) (hne : ¬ (x = (s : Int) ∧ y = (q : Int))) : noHop l s q (i + 1) := fun j h1 hj => by
  rcases Nat.lt_or_ge j i with h2 | h2
  · exact h j h1 h2
  · obtain rfl : j = i := by omega
    rw [hx, hy]; simp only [Option.some.injEq]; exact hne
/-- the form of a cube -/
def bufOk (dim : Nat) (r : Int) (n : Nat) (l : List Pk) : Bool := decide ((l.length : Int) ≤ r) && l.all fun p => canB dim p (n / (dim + 1)) (n % (dim + 1))
def formB (dim : Nat) (r : Int) (L : List (List Pk)) : Bool := decide (L.length = 2 ^ dim * (dim + 1)) && (List.range L.length).all fun n => bufOk dim r n (L.getD n [])
/-- the error of a cube -/
def chkE (d r : Int) (L : List (List Pk)) : Int := if d < 0 ∨ 3 < d ∨ r < 1 ∨ 8 < r then 3 else if formB d.toNat r L = true then 0 else 4
def upto (dim : Nat) (r : Int) (L : List (List Pk)) (i : Nat) : Prop := ∀ n, n < i → bufOk dim r n (L.getD n []) = true
theorem chk_range {d r : Int} {L : List (List Pk)} (h : d < 0 ∨ 3 < d ∨ r < 1 ∨ 8 < r) : Value.int .i64 3 = .int .i64 (chkE d r L) := by unfold chkE; rw [if_pos h]
theorem chk_form {dim : Nat} {r : Int} {L : List (List Pk)} (h : ¬ ((dim : Int) < 0 ∨ 3 < (dim : Int) ∨ r < 1 ∨ 8 < r)) (hf : formB dim r L = false) : Value.int .i64 4 = .int .i64 (chkE dim r L) := by
  unfold chkE; rw [if_neg h, if_neg (by rw [Int.toNat_natCast, hf]; exact Bool.false_ne_true)]
theorem form_len {dim : Nat} {r : Int} {L : List (List Pk)} (h : ¬ L.length = 2 ^ dim * (dim + 1)) : formB dim r L = false := by unfold formB; rw [decide_eq_false h]; rfl
theorem form_buf {dim n : Nat} {r : Int} {L : List (List Pk)} {l : List Pk} (hl : L[n]? = some l) (h : bufOk dim r n l = false) : formB dim r L = false := by
  unfold formB
  have : (List.range L.length).all (fun n => bufOk dim r n (L.getD n [])) = false := by
    rw [List.all_eq_false]
    exact ⟨n, List.mem_range.2 (List.getElem?_eq_some_iff.1 hl).1, by simp [hl, h]⟩
  rw [this, Bool.and_false]
theorem buf_long {dim n : Nat} {r : Int} {l : List Pk} (h : r < (l.length : Int)) : bufOk dim r n l = false := by unfold bufOk; rw [decide_eq_false (by omega)]; rfl
theorem buf_pk {dim n k : Nat} {r : Int} {l : List Pk} {p : Pk} (hp : l[k]? = some p) (h : canB dim p (n / (dim + 1)) (n % (dim + 1)) = false) : bufOk dim r n l = false := by
  unfold bufOk
  have : l.all (fun p => canB dim p (n / (dim + 1)) (n % (dim + 1))) = false := by
    rw [List.all_eq_false]; exact ⟨p, List.mem_of_getElem? hp, by simp [h]⟩
  rw [this, Bool.and_false]
theorem buf_ok {dim n k : Nat} {r : Int} {l : List Pk} (h1 : ¬ r < (l.length : Int)) (h : (l.take k).all (fun p => canB dim p (n / (dim + 1)) (n % (dim + 1))) = true) (hk : ¬ (k : Int) < (l.length : Int)) : bufOk dim r n l = true := by
  unfold bufOk; rw [all_end h hk, decide_eq_true (by omega)]; rfl
theorem upto_step {dim i : Nat} {r : Int} {L : List (List Pk)} {l : List Pk} (h : upto dim r L i) (hl : L[i]? = some l) (hb : bufOk dim r i l = true) : upto dim r L (i + 1) := fun n hn => by
  rcases Nat.lt_or_ge n i with h1 | h1
  · exact h n h1
  · obtain rfl : n = i := by omega
    simp [hl, hb]
theorem chk_ok {dim i : Nat} {r : Int} {L : List (List Pk)} (h : ¬ ((dim : Int) < 0 ∨ 3 < (dim : Int) ∨ r < 1 ∨ 8 < r)) (hl : L.length = 2 ^ dim * (dim + 1)) (hu : upto dim r L i) (hi : ¬ (i : Int) < (L.length : Int)) : Value.int .i64 0 = .int .i64 (chkE dim r L) := by
  have : formB dim r L = true := by
    unfold formB
    rw [decide_eq_true hl, Bool.true_and, List.all_eq_true]
    intro n hn
    exact hu n (by have := List.mem_range.1 hn; omega)
  unfold chkE; rw [if_neg h, if_pos (by rw [Int.toNat_natCast]; exact this)]
theorem at_bounds {dim i : Nat} (hd : dim ≤ 3) (h : i < 2 ^ dim * (dim + 1)) : i / (dim + 1) < 2 ^ dim ∧ i / (dim + 1) < 8 ∧ i % (dim + 1) ≤ dim := by
  have h1 : i / (dim + 1) < 2 ^ dim := Nat.div_lt_of_lt_mul (by rwa [Nat.mul_comm])
  have h2 := pow2_le dim (Nat.le_refl _) hd
  have h3 := Nat.mod_lt i (show 0 < dim + 1 by omega)
  exact ⟨h1, by omega, by omega⟩
theorem prod_le {dim : Nat} (hd : dim ≤ 3) : 2 ^ dim * (dim + 1) ≤ 32 := by
  have h2 := pow2_le dim (Nat.le_refl _) hd
  exact Nat.mul_le_mul h2 (show dim + 1 ≤ 4 by omega)

theorem pk_one {x : Pk} {u : Value} (hu : u ∈ pkC x) : u.oneCell' = true := by
  simp only [pkC, List.mem_cons, List.not_mem_nil, or_false] at hu
  rcases hu with rfl | rfl | rfl <;> rfl
/-- a cube of our own -/
def CubeT (lo : Nat) (w : World) (v : Value) (d r : Int) (L : List (List Pk)) : Prop :=
  ∃ (s : Option Addr) (c : Nat) (T : List (TE Pk)), v = .agg #[.int .i64 d, .int .i64 r, .slice s T.length c] ∧ T.map (·.2.2) = L ∧ Tab w 49 41 3 pkC s c T ∧ ∀ k, tb s T k → lo ≤ k
/-- a cube to be read -/
def CubeR (lo : Nat) (w : World) (v : Value) (d r : Int) (L : List (List Pk)) : Prop :=
  ∃ (s : Option Addr) (c : Nat), v = .agg #[.int .i64 d, .int .i64 r, .slice s L.length c] ∧ BufS (Iv lo w.heap.size) w s L
theorem CubeT.read {lo : Nat} {w : World} {v : Value} {d r : Int} {L : List (List Pk)} (h : CubeT lo w v d r L) : CubeR lo w v d r L := by
  obtain ⟨s, c, T, rfl, rfl, hT, hg⟩ := h
  exact ⟨s, c, by simp, hT.read (by decide) (fun _ => rfl) (fun k hk => ⟨hg k hk, hT.lt hk⟩)⟩
theorem tab_step {T : List (TE Pk)} {L : List (List Pk)} {i : Nat} {l : List Pk} {e : TE Pk} (hT : T.map (·.2.2) = L.take i) (hl : L[i]? = some l) (he : e.2.2 = l) : (T ++ [e]).map (·.2.2) = L.take (i + 1) := by
  rw [List.map_append, hT, List.take_add_one, hl, List.map_cons, he]; rfl
theorem cubeT_of {w : World} {lo i c : Nat} {s : Option Addr} {T : List (TE Pk)} {L : List (List Pk)} {d r : Int} (h : Tab w 49 41 3 pkC s c T) (hT : T.map (·.2.2) = L.take i) (hi : L.length ≤ i) (hg : ∀ k, tb s T k → lo ≤ k) :
    CubeT lo w (.agg #[.int .i64 d, .int .i64 r, .slice s T.length c]) d r L := ⟨s, c, T, rfl, by rw [hT, List.take_of_length_le hi], h, hg⟩
theorem IntR.nil (lo : Nat) (w : World) : IntR lo w (.slice none 0 0) [] := ⟨none, 0, rfl, fun i x h => by simp at h⟩
/-- a way between any numbers -/
def wayE (d a b : Int) : Int := if d < 0 ∨ 3 < d then 3 else if a < 0 ∨ ((2 ^ d.toNat : Nat) : Int) ≤ a ∨ b < 0 ∨ ((2 ^ d.toNat : Nat) : Int) ≤ b then 7 else 0
def wayR (d a b : Int) : List Int := if wayE d a b = 0 then wayL a.toNat b.toNat else []
def WayQ (lo : Nat) (d a b : Int) (v : Value) (w : World) : Prop := ∃ u, v = .tuple #[u, .int .i64 (wayE d a b)] ∧ IntR lo w u (wayR d a b)
theorem way_none {lo : Nat} {w : World} {d a b e : Int} (he : wayE d a b = e) (hne : e ≠ 0) : WayQ lo d a b (.tuple #[.slice none 0 0, .int .i64 e]) w := by
  subst he
  exact ⟨_, rfl, by unfold wayR; rw [if_neg hne]; exact IntR.nil _ _⟩
theorem way_range {d a b : Int} (h : d < 0 ∨ 3 < d) : wayE d a b = 3 := by unfold wayE; rw [if_pos h]
theorem way_no {d : Nat} {a b : Int} (hd : ¬ ((d : Int) < 0 ∨ 3 < (d : Int))) (h : a < 0 ∨ ((2 ^ d : Nat) : Int) ≤ a ∨ b < 0 ∨ ((2 ^ d : Nat) : Int) ≤ b) : wayE d a b = 7 := by unfold wayE; rw [if_neg hd, Int.toNat_natCast, if_pos h]
theorem way_ok {lo : Nat} {w : World} {d a b : Nat} {u : Value} (hd : d ≤ 3) (ha : a < 2 ^ d) (hb : b < 2 ^ d) (hu : IntR lo w u (wayL a b)) : WayQ lo d a b (.tuple #[u, .int .i64 0]) w := by
  have he : wayE d a b = 0 := by unfold wayE; rw [if_neg (by omega), Int.toNat_natCast, if_neg (by omega)]
  exact ⟨u, by rw [he], by unfold wayR; rw [if_pos he, Int.toNat_natCast, Int.toNat_natCast]; exact hu⟩
theorem IntR.wide {lo lo' : Nat} {w : World} {v : Value} {l : List Int} (h : IntR lo w v l) (hl : lo' ≤ lo) : IntR lo' w v l := by
  obtain ⟨s, c, h1, h2⟩ := h
  exact ⟨s, c, h1, h2.wide (fun b hb => ⟨Nat.le_trans hl hb.1, hb.2⟩)⟩
/-- a new cube -/
def newE (d r : Int) : Int := if d < 0 ∨ 3 < d ∨ r < 1 ∨ 8 < r then 3 else 0
def newC (d r : Int) : Int × Int × List (List Pk) := if newE d r = 0 then (d, r, List.replicate (2 ^ d.toNat * (d.toNat + 1)) []) else (0, 0, [])
def NewQ (lo : Nat) (d r : Int) (v : Value) (w : World) : Prop := ∃ u, v = .tuple #[u, .int .i64 (newE d r)] ∧ CubeR lo w u (newC d r).1 (newC d r).2.1 (newC d r).2.2
theorem CubeR.nil (lo : Nat) (w : World) : CubeR lo w (.agg #[.int .i64 0, .int .i64 0, .slice none 0 0]) 0 0 [] := ⟨none, 0, rfl, fun i x h => by simp at h⟩
theorem new_bad {lo : Nat} {w : World} {d r : Int} (h : d < 0 ∨ 3 < d ∨ r < 1 ∨ 8 < r) : NewQ lo d r (.tuple #[.agg #[.int .i64 0, .int .i64 0, .slice none 0 0], .int .i64 3]) w := by
  have he : newE d r = 3 := by unfold newE; rw [if_pos h]
  exact ⟨_, by rw [he], by unfold newC; rw [he]; exact CubeR.nil _ _⟩
theorem made_buf {w : World} {b n lo : Nat} (hB : Blk w b (List.replicate n (.slice none 0 0)) 49) (hlo : lo ≤ b) : BufS (Iv lo w.heap.size) w (some ⟨b, 0, none⟩) (List.replicate n []) := by
  intro i x hi
  have hlt : i < n := by have := (List.getElem?_eq_some_iff.1 hi).1; simpa using this
  have hx : x = [] := by rw [List.getElem?_replicate, if_pos hlt] at hi; exact (Option.some.inj hi).symm
  subst hx
  refine ⟨b, 0, rfl, ⟨hlo, hB.lt⟩, none, 0, ?_, fun i x h => by simp at h⟩
  exact hB.cell _ (by rw [Nat.zero_add, Nat.mul_one, List.getElem?_replicate, if_pos hlt]; rfl)
theorem new_ok {w : World} {lo d n b : Nat} {r : Int} (h : ¬ ((d : Int) < 0 ∨ 3 < (d : Int) ∨ r < 1 ∨ 8 < r)) (hn : n = 2 ^ d * (d + 1)) (hB : Blk w b (List.replicate n (.slice none 0 0)) 49) (hlo : lo ≤ b) :
    NewQ lo d r (.tuple #[.agg #[.int .i64 d, .int .i64 r, .slice (some ⟨b, 0, none⟩) n n], .int .i64 0]) w := by
  have he : newE d r = 0 := by unfold newE; rw [if_neg h]
  refine ⟨_, by rw [he], ?_⟩
  unfold newC; rw [he, if_pos rfl]
  exact ⟨some ⟨b, 0, none⟩, n, by simp [hn], by rw [Int.toNat_natCast, ← hn]; exact made_buf hB hlo⟩
/-- a cube in which all is as it must be -/
structure Valid (dim : Nat) (r : Int) (L : List (List Pk)) : Prop where
  hd : dim ≤ 3
  hr : 1 ≤ r ∧ r ≤ 8
  form : formB dim r L = true
theorem chk_zero {d r : Int} {L : List (List Pk)} (h : chkE d r L = 0) : ∃ dim : Nat, d = (dim : Int) ∧ Valid dim r L := by
  unfold chkE at h
  split at h
  · omega
  · rename_i h1
    split at h
    · rename_i h2
      exact ⟨d.toNat, by omega, by omega, by omega, h2⟩
    · omega
theorem Valid.chk {dim : Nat} {r : Int} {L : List (List Pk)} (h : Valid dim r L) : chkE dim r L = 0 := by
  have := h.hd; have := h.hr
  unfold chkE; rw [if_neg (by omega), if_pos (by rw [Int.toNat_natCast]; exact h.form)]
theorem Valid.len {dim : Nat} {r : Int} {L : List (List Pk)} (h : Valid dim r L) : L.length = 2 ^ dim * (dim + 1) := by
  have := h.form; unfold formB at this
  rw [Bool.and_eq_true] at this
  exact of_decide_eq_true this.1
theorem Valid.buf {dim n : Nat} {r : Int} {L : List (List Pk)} {l : List Pk} (h : Valid dim r L) (hl : L[n]? = some l) : (l.length : Int) ≤ r ∧ ∀ p ∈ l, canB dim p (n / (dim + 1)) (n % (dim + 1)) = true := by
  have := h.form; unfold formB at this
  rw [Bool.and_eq_true, List.all_eq_true] at this
  have h1 := this.2 n (List.mem_range.2 (List.getElem?_eq_some_iff.1 hl).1)
  rw [List.getD_eq_getElem?_getD, hl, Option.getD_some] at h1
  unfold bufOk at h1
  rw [Bool.and_eq_true, List.all_eq_true] at h1
  exact ⟨of_decide_eq_true h1.1, h1.2⟩
theorem Valid.le8 {dim n : Nat} {r : Int} {L : List (List Pk)} {l : List Pk} (h : Valid dim r L) (hl : L[n]? = some l) : l.length ≤ 8 := by
  have := (h.buf hl).1; have := h.hr; omega
theorem Valid.at {dim n : Nat} {r : Int} {L : List (List Pk)} {l : List Pk} (h : Valid dim r L) (hl : L[n]? = some l) : n < 2 ^ dim * (dim + 1) ∧ n / (dim + 1) < 2 ^ dim ∧ n / (dim + 1) < 8 ∧ n % (dim + 1) ≤ dim := by
  have h1 := (List.getElem?_eq_some_iff.1 hl).1
  rw [h.len] at h1
  exact ⟨h1, at_bounds h.hd h1⟩
theorem can_in {dim s q : Nat} {p : Pk} (h : canB dim p s q = true) : ∃ a b : Nat, p = ((a : Int), (b : Int), p.2.2) ∧ a < 2 ^ dim ∧ b < 2 ^ dim := by
  unfold canB at h
  split at h
  · cases h
  · rename_i h1
    obtain ⟨p1, p2, p3⟩ := p
    simp only at h1 ⊢
    exact ⟨p1.toNat, p2.toNat, by rw [Int.toNat_of_nonneg (by omega), Int.toNat_of_nonneg (by omega)], by omega, by omega⟩
/-- where the first packet goes -/
def tgt (dim n : Nat) (p : Pk) : Int := if bitN (n / (dim + 1)) p.2.1.toNat < 0 then -1 else ((overN (n / (dim + 1)) (bitN (n / (dim + 1)) p.2.1.toNat).toNat * (dim + 1) + (bitN (n / (dim + 1)) p.2.1.toNat).toNat : Nat) : Int)
theorem tgt_none {dim n b : Nat} {a l : Int} (h : bitN (n / (dim + 1)) b < 0) : Value.int .i64 (-1) = .int .i64 (tgt dim n (a, (b : Int), l)) := by
  unfold tgt; rw [if_pos (by simpa using h)]
theorem tgt_some {dim n b k : Nat} {a l : Int} (h : bitN (n / (dim + 1)) b = (k : Int)) : Value.int .i64 ((overN (n / (dim + 1)) k * (dim + 1) + k : Nat) : Int) = .int .i64 (tgt dim n (a, (b : Int), l)) := by
  unfold tgt; simp only [Int.toNat_natCast, h]; rw [if_neg (by omega)]
theorem over_dim0 : ∀ d : Fin 4, ∀ s : Fin 8, ∀ b : Fin 8, s.val < 2 ^ d.val → b.val < 2 ^ d.val → (0 : Int) ≤ bitN s b → overN s (bitN s b).toNat < 2 ^ d.val ∧ (bitN s b).toNat < d.val := by decide
theorem over_dim {d s b k : Nat} (hd : d ≤ 3) (hs : s < 2 ^ d) (hb : b < 2 ^ d) (h : bitN s b = (k : Int)) : overN s k < 2 ^ d ∧ k < d := by
  have h8 := pow2_le d (Nat.le_refl _) hd
  have := over_dim0 ⟨d, by omega⟩ ⟨s, by omega⟩ ⟨b, by omega⟩ hs hb (by show (0 : Int) ≤ bitN s b; omega)
  simp only [h, Int.toNat_natCast] at this; exact this
theorem tgt_lt {dim n : Nat} {r : Int} {L : List (List Pk)} {p : Pk} {q : List Pk} (hV : Valid dim r L) (hn : L[n]? = some (p :: q)) (h : ¬ tgt dim n p < 0) : ∃ m : Nat, tgt dim n p = (m : Int) ∧ m < L.length := by
  obtain ⟨a, b, hp, _, hb⟩ := can_in ((hV.buf hn).2 p (List.mem_cons_self ..))
  obtain ⟨h1, h2, h3, h4⟩ := hV.at hn
  rw [hp] at h ⊢
  rcases Int.lt_or_le (bitN (n / (dim + 1)) b) 0 with hk | hk
  · have := tgt_none (dim := dim) (a := (a : Int)) (l := p.2.2) hk
    simp only [Value.int.injEq, true_and] at this
    omega
  · obtain ⟨k, hk, hk3⟩ := bit_nat hk
    have := tgt_some (dim := dim) (a := (a : Int)) (l := p.2.2) hk
    simp only [Value.int.injEq, true_and] at this
    obtain ⟨g1, g2⟩ := over_dim hV.hd h2 hb hk
    refine ⟨_, this.symm, ?_⟩
    rw [hV.len]
    have := Nat.mul_le_mul_right (dim + 1) (show overN (n / (dim + 1)) k + 1 ≤ 2 ^ dim by omega)
    rw [Nat.succ_mul] at this
    omega
def ableB (dim : Nat) (r : Int) (L : List (List Pk)) (n : Nat) : Bool :=
  match L[n]? with
  | some (p :: _) => decide (tgt dim n p < 0) || decide (((L.getD (tgt dim n p).toNat []).length : Int) < r)
  | _ => false
theorem able_nil {dim n : Nat} {r : Int} {L : List (List Pk)} {l : List Pk} (hl : L[n]? = some l) (h : ((l.length : Nat) : Int) = 0) : Value.bool false = .bool (ableB dim r L n) := by
  have : l = [] := List.eq_nil_of_length_eq_zero (by omega)
  subst this
  unfold ableB; rw [hl]
theorem able_out {dim n : Nat} {r : Int} {L : List (List Pk)} {p : Pk} {q : List Pk} (hl : L[n]? = some (p :: q)) (h : tgt dim n p < 0) : Value.bool true = .bool (ableB dim r L n) := by
  unfold ableB; rw [hl]; simp [h]
theorem able_on {dim n m : Nat} {r : Int} {L : List (List Pk)} {p : Pk} {q l : List Pk} (hl : L[n]? = some (p :: q)) (h : ¬ tgt dim n p < 0) (hm : tgt dim n p = (m : Int)) (hlm : L[m]? = some l) : Value.bool (decide ((l.length : Int) < r)) = .bool (ableB dim r L n) := by
  unfold ableB; rw [hl]
  simp [hm, hlm]
  intro h; omega
theorem cons_of {α : Type} {l : List α} (h : ¬ ((l.length : Nat) : Int) = 0) : ∃ p q, l = p :: q := by
  cases l with
  | nil => exact absurd rfl h
  | cons p q => exact ⟨p, q, rfl⟩
def movesL (dim : Nat) (r : Int) (L : List (List Pk)) (i : Nat) : List (Nat × Nat) := ((List.range i).filter (ableB dim r L)).map fun n => (n / (dim + 1), n % (dim + 1))
def mvC (m : Nat × Nat) : List Value := [.int .i64 (m.1 : Int), .int .i64 (m.2 : Int)]
theorem moves_step_t {dim i : Nat} {r : Int} {L : List (List Pk)} (h : ableB dim r L i = true) : movesL dim r L (i + 1) = movesL dim r L i ++ [(i / (dim + 1), i % (dim + 1))] := by
  unfold movesL; rw [List.range_succ, List.filter_append, List.map_append]; simp [h]
theorem moves_step_f {dim i : Nat} {r : Int} {L : List (List Pk)} (h : ableB dim r L i = false) : movesL dim r L (i + 1) = movesL dim r L i := by
  unfold movesL; rw [List.range_succ, List.filter_append, List.map_append]; simp [h]
theorem moves_len (dim : Nat) (r : Int) (L : List (List Pk)) (i : Nat) : (movesL dim r L i).length ≤ i := by
  unfold movesL; rw [List.length_map]; exact Nat.le_trans (List.length_filter_le ..) (by simp)
abbrev MvS (F : Nat → Prop) (w : World) (s : Option Addr) (l : List (Nat × Nat)) : Prop := Sl F w s 2 l (Fl mvC)
def MvR (lo : Nat) (w : World) (v : Value) (l : List (Nat × Nat)) : Prop := ∃ s c, v = .slice s l.length c ∧ MvS (Iv lo w.heap.size) w s l
theorem MvR.nil (lo : Nat) (w : World) : MvR lo w (.slice none 0 0) [] := ⟨none, 0, rfl, fun i x h => by simp at h⟩
def movesQ (d r : Int) (L : List (List Pk)) : List (Nat × Nat) := if chkE d r L = 0 then movesL d.toNat r L L.length else []
def MovesQ (lo : Nat) (d r : Int) (L : List (List Pk)) (v : Value) (w : World) : Prop := ∃ u, v = .tuple #[u, .int .i64 (chkE d r L)] ∧ MvR lo w u (movesQ d r L)
theorem moves_bad {lo : Nat} {w : World} {d r : Int} {L : List (List Pk)} (h : chkE d r L ≠ 0) : MovesQ lo d r L (.tuple #[.slice none 0 0, .int .i64 (chkE d r L)]) w :=
  ⟨_, rfl, by unfold movesQ; rw [if_neg h]; exact MvR.nil _ _⟩
theorem moves_ok {lo i n c dim : Nat} {w : World} {r : Int} {L : List (List Pk)} {s : Option Addr} (hV : Valid dim r L) (h : OwnS w 45 2 s n c ((movesL dim r L i).flatMap mvC)) (hn : n = (movesL dim r L i).length) (hi : i ≤ L.length) (hlt : ¬ (i : Int) < (L.length : Int)) (hg : ∀ k, ob s k → lo ≤ k) :
    MovesQ lo dim r L (.tuple #[.slice s n c, .int .i64 0]) w := by
  obtain rfl : i = L.length := by omega
  subst hn
  refine ⟨_, by rw [hV.chk], ?_⟩
  unfold movesQ; rw [if_pos hV.chk, Int.toNat_natCast]
  exact ⟨s, c, rfl, h.sl (by decide) rfl (fun _ _ => rfl) (fun k hk => ⟨hg k hk, h.lt hk⟩)⟩
theorem own_snocM {w : World} {s : Option Addr} {n c a b : Nat} {l : List (Nat × Nat)} (h : OwnS w 45 2 s n c (l.flatMap mvC ++ [.int .i64 (a : Int), .int .i64 (b : Int)])) : OwnS w 45 2 s n c ((l ++ [(a, b)]).flatMap mvC) := by
  rw [List.flatMap_append]; exact h
/-- what is left -/
def wayN (dim n : Nat) (p : Pk) : Nat := (wayL (n / (dim + 1)) p.2.1.toNat).length
def leftB (dim n : Nat) (l : List Pk) : Nat := (l.map (wayN dim n)).sum
def leftN (dim : Nat) (L : List (List Pk)) (i : Nat) : Nat := ((List.range i).map fun n => leftB dim n (L.getD n [])).sum
theorem leftB_le (dim n : Nat) (l : List Pk) : leftB dim n l ≤ 4 * l.length := by
  unfold leftB
  induction l with
  | nil => simp
  | cons p l ih => simp only [List.map_cons, List.sum_cons, List.length_cons]; have := way_len (n / (dim + 1)) p.2.1.toNat; unfold wayN at *; omega
theorem leftB_step {dim n k : Nat} {l : List Pk} {p : Pk} (hp : l[k]? = some p) : leftB dim n (l.take (k + 1)) = leftB dim n (l.take k) + wayN dim n p := by
  unfold leftB; rw [List.take_add_one, hp]; simp
theorem leftN_step {dim i : Nat} {L : List (List Pk)} {l : List Pk} (hl : L[i]? = some l) : leftN dim L (i + 1) = leftN dim L i + leftB dim i l := by
  unfold leftN; rw [List.range_succ]; simp [hl]
theorem leftN_le {dim i : Nat} {L : List (List Pk)} (h : ∀ (n : Nat) (l : List Pk), L[n]? = some l → l.length ≤ 8) (hi : i ≤ L.length) : leftN dim L i ≤ 32 * i := by
  induction i with
  | zero => simp [leftN]
  | succ i ih =>
    obtain ⟨l, hl⟩ : ∃ l, L[i]? = some l := ⟨_, List.getElem?_eq_getElem (by omega)⟩
    rw [leftN_step hl]
    have := leftB_le dim i l; have := h i l hl; have := ih (by omega); omega
def leftQ (d r : Int) (L : List (List Pk)) : Nat := if chkE d r L = 0 then leftN d.toNat L L.length else 0
theorem left_bad {d r : Int} {L : List (List Pk)} (h : chkE d r L ≠ 0) : Value.tuple #[.int .i64 0, .int .i64 (chkE d r L)] = .tuple #[.int .i64 (leftQ d r L : Nat), .int .i64 (chkE d r L)] := by
  unfold leftQ; rw [if_neg h]; rfl
theorem left_ok {dim i : Nat} {r : Int} {L : List (List Pk)} (hV : Valid dim r L) (hi : i ≤ L.length) (hlt : ¬ (i : Int) < (L.length : Int)) : Value.tuple #[.int .i64 (leftN dim L i : Nat), .int .i64 0] = .tuple #[.int .i64 (leftQ dim r L : Nat), .int .i64 (chkE dim r L)] := by
  obtain rfl : i = L.length := by omega
  unfold leftQ; rw [hV.chk, if_pos rfl, Int.toNat_natCast]
theorem IntR.ext {lo : Nat} {w w' : World} {v : Value} {l : List Int} (h : IntR lo w v l) (hf : Ext w w') : IntR lo w' v l := by
  obtain ⟨s, c, h1, h2⟩ := h
  exact ⟨s, c, h1, (h2.fr (int_stab _) hf (fun _ _ h => h)).wide (fun b hb => ⟨hb.1, Nat.lt_of_lt_of_le hb.2 hf.size⟩)⟩

theorem getD_of {α : Type} {L : List (List α)} {n : Nat} {l : List α} (hl : L[n]? = some l) : L.getD n [] = l := by rw [List.getD_eq_getElem?_getD, hl]; rfl
theorem tab_at {T : List (TE Pk)} {L : List (List Pk)} {i : Nat} {l : List Pk} (hT : T.map (·.2.2) = L) (hl : L[i]? = some l) : ∃ e : TE Pk, T[i]? = some e ∧ l = e.2.2 := by
  rw [← hT, List.getElem?_map] at hl
  cases he : T[i]? with
  | none => rw [he] at hl; cases hl
  | some e => rw [he] at hl; exact ⟨e, rfl, (Option.some.inj hl).symm⟩
theorem many_le8 : ∀ {L : List (List Pk)}, (∀ l ∈ L, l.length ≤ 8) → manyN L ≤ 8 * L.length
  | [], _ => by simp [manyN]
  | l :: L, h => by
    have h1 := many_le8 (fun x hx => h x (List.mem_cons_of_mem _ hx))
    have h2 := h l (List.mem_cons_self ..)
    unfold manyN at *
    simp only [List.map_cons, List.sum_cons, List.length_cons]; omega
theorem Valid.bd {dim : Nat} {r : Int} {L : List (List Pk)} (h : Valid dim r L) : Bd L := by
  have h1 := h.len
  have h2 := prod_le h.hd
  have h3 := many_le8 (L := L) (fun l hl => by obtain ⟨i, hi⟩ := List.getElem?_of_mem hl; exact h.le8 hi)
  exact ⟨by omega, by omega⟩
/-- packets that are read -/
def PkR (lo : Nat) (w : World) (v : Value) (l : List Pk) : Prop := ∃ s c, v = .slice s l.length c ∧ PkS (Iv lo w.heap.size) w s l
theorem PkR.nil (lo : Nat) (w : World) : PkR lo w (.slice none 0 0) [] := ⟨none, 0, rfl, fun i x h => by simp at h⟩
theorem PkR.one {lo b : Nat} {w : World} {p : Pk} (hB : Blk w b (pkC p) 41) (hlo : lo ≤ b) : PkR lo w (.slice (some ⟨b, 0, none⟩) 1 1) [p] :=
  ⟨some ⟨b, 0, none⟩, 1, rfl, (OwnS.full (n := 1) (size := 3) hB rfl (by decide)).sl (by decide) (by simp) (fun _ _ => rfl) (fun k hk => by have h1 := ob_some hk; subst h1; exact ⟨hlo, hB.lt⟩)⟩
theorem tab_cube {w : World} {lo c : Nat} {s : Option Addr} {T : List (TE Pk)} {L : List (List Pk)} {d r : Int} (h : Tab w 49 41 3 pkC s c T) (hT : T.map (·.2.2) = L) (hg : ∀ k, tb s T k → lo ≤ k) {n : Nat} (hn : n = T.length) :
    CubeR lo w (.agg #[.int .i64 d, .int .i64 r, .slice s n c]) d r L := by subst hn; exact CubeT.read ⟨s, c, T, rfl, hT, h, hg⟩
/-- a packet is put in -/
def putN (d : Int) (p : Pk) : Nat := p.1.toNat * (d.toNat + 1) + d.toNat
def putE (d r : Int) (L : List (List Pk)) (p : Pk) : Int :=
  if chkE d r L ≠ 0 then chkE d r L else if p.1 < 0 ∨ ((2 ^ d.toNat : Nat) : Int) ≤ p.1 ∨ p.2.1 < 0 ∨ ((2 ^ d.toNat : Nat) : Int) ≤ p.2.1 then 7
  else if ((L.getD (putN d p) []).length : Int) = r then 8 else 0
def putC (d r : Int) (L : List (List Pk)) (p : Pk) : Int × Int × List (List Pk) := if putE d r L p = 0 then (d, r, L.set (putN d p) (L.getD (putN d p) [] ++ [p])) else (0, 0, [])
def PutQ (lo : Nat) (d r : Int) (L : List (List Pk)) (p : Pk) (v : Value) (w : World) : Prop := ∃ u, v = .tuple #[u, .int .i64 (putE d r L p)] ∧ CubeR lo w u (putC d r L p).1 (putC d r L p).2.1 (putC d r L p).2.2
theorem put_err {lo : Nat} {w : World} {d r e : Int} {L : List (List Pk)} {p : Pk} (he : putE d r L p = e) (hne : e ≠ 0) : PutQ lo d r L p (.tuple #[.agg #[.int .i64 0, .int .i64 0, .slice none 0 0], .int .i64 e]) w := by
  subst he
  exact ⟨_, rfl, by unfold putC; rw [if_neg hne]; exact CubeR.nil _ _⟩
theorem putE_chk {d r : Int} {L : List (List Pk)} {p : Pk} (h : chkE d r L ≠ 0) : putE d r L p = chkE d r L := by unfold putE; rw [if_pos h]
theorem putE_none {dim : Nat} {r : Int} {L : List (List Pk)} {p : Pk} (hV : Valid dim r L) (h : p.1 < 0 ∨ ((2 ^ dim : Nat) : Int) ≤ p.1 ∨ p.2.1 < 0 ∨ ((2 ^ dim : Nat) : Int) ≤ p.2.1) : putE dim r L p = 7 := by
  unfold putE; rw [if_neg (by rw [hV.chk]; decide), Int.toNat_natCast, if_pos h]
theorem putE_full {dim a b : Nat} {r z : Int} {L : List (List Pk)} {l : List Pk} (hV : Valid dim r L) (ha : a < 2 ^ dim) (hb : b < 2 ^ dim) (hl : L[a * (dim + 1) + dim]? = some l) (h : (l.length : Int) = r) : putE dim r L ((a : Int), (b : Int), z) = 8 := by
  unfold putE putN; simp only [Int.toNat_natCast]
  rw [if_neg (by rw [hV.chk]; decide), if_neg (by omega), if_pos (by rw [getD_of hl]; exact h)]
theorem putE_ok {dim a b : Nat} {r z : Int} {L : List (List Pk)} {l : List Pk} (hV : Valid dim r L) (ha : a < 2 ^ dim) (hb : b < 2 ^ dim) (hl : L[a * (dim + 1) + dim]? = some l) (h : ¬ (l.length : Int) = r) : putE dim r L ((a : Int), (b : Int), z) = 0 := by
  unfold putE putN; simp only [Int.toNat_natCast]
  rw [if_neg (by rw [hV.chk]; decide), if_neg (by omega), if_neg (by rw [getD_of hl]; exact h)]
theorem put_ok {lo : Nat} {w : World} {dim a b : Nat} {r z : Int} {L : List (List Pk)} {l : List Pk} {u : Value} (hV : Valid dim r L) (ha : a < 2 ^ dim) (hb : b < 2 ^ dim) (hl : L[a * (dim + 1) + dim]? = some l) (h : ¬ (l.length : Int) = r)
    (hu : CubeR lo w u dim r (L.set (a * (dim + 1) + dim) (l ++ [((a : Int), (b : Int), z)]))) : PutQ lo dim r L ((a : Int), (b : Int), z) (.tuple #[u, .int .i64 0]) w := by
  have he := putE_ok (z := z) hV ha hb hl h
  refine ⟨u, by rw [he], ?_⟩
  unfold putC; rw [if_pos he]
  simp only [putN, Int.toNat_natCast]
  rw [List.getD_eq_getElem?_getD, hl]; exact hu
theorem at_lt {dim a k : Nat} (ha : a < 2 ^ dim) (hk : k ≤ dim) : a * (dim + 1) + k < 2 ^ dim * (dim + 1) := by
  have := Nat.mul_le_mul_right (dim + 1) (show a + 1 ≤ 2 ^ dim by omega)
  rw [Nat.succ_mul] at this; omega
theorem set_map {T : List (TE Pk)} {L : List (List Pk)} (hT : T.map (·.2.2) = L) (i : Nat) (e : TE Pk) : (T.set i e).map (·.2.2) = L.set i e.2.2 := by rw [List.map_set, hT]
/-- the first packet of a buffer moves -/
def movedL (dim : Nat) (L : List (List Pk)) (n : Nat) (p : Pk) (q : List Pk) : List (List Pk) :=
  if tgt dim n p < 0 then L.set n q else (L.set n q).set (tgt dim n p).toNat ((L.set n q).getD (tgt dim n p).toNat [] ++ [p])
def movedO (dim n : Nat) (p : Pk) : List Pk := if tgt dim n p < 0 then [p] else []
def MovedQ (lo : Nat) (dim : Nat) (r : Int) (L : List (List Pk)) (n : Nat) (p : Pk) (q : List Pk) (v : Value) (w : World) : Prop := ∃ u o, v = .tuple #[u, o] ∧ CubeR lo w u dim r (movedL dim L n p q) ∧ PkR lo w o (movedO dim n p)
theorem moved_out {lo dim n : Nat} {w : World} {r : Int} {L : List (List Pk)} {p : Pk} {q : List Pk} {u o : Value} (h : tgt dim n p < 0) (hu : CubeR lo w u dim r (L.set n q)) (ho : PkR lo w o [p]) : MovedQ lo dim r L n p q (.tuple #[u, o]) w :=
  ⟨u, o, rfl, by unfold movedL; rw [if_pos h]; exact hu, by unfold movedO; rw [if_pos h]; exact ho⟩
theorem moved_on {lo dim n m : Nat} {w : World} {r : Int} {L : List (List Pk)} {p : Pk} {q lm : List Pk} {u : Value} (h : ¬ tgt dim n p < 0) (hm : tgt dim n p = (m : Int)) (hlm : (L.set n q)[m]? = some lm) (hu : CubeR lo w u dim r ((L.set n q).set m (lm ++ [p]))) :
    MovedQ lo dim r L n p q (.tuple #[u, .slice none 0 0]) w :=
  ⟨u, _, rfl, by unfold movedL; rw [if_neg h, hm, Int.toNat_natCast, List.getD_eq_getElem?_getD, hlm]; exact hu, by unfold movedO; rw [if_neg h]; exact PkR.nil _ _⟩
theorem set_len8 {dim n m : Nat} {r : Int} {L : List (List Pk)} {p : Pk} {q lm : List Pk} (hV : Valid dim r L) (hn : L[n]? = some (p :: q)) (hlm : (L.set n q)[m]? = some lm) : lm.length ≤ 8 := by
  by_cases hnm : n = m
  · subst hnm
    rw [List.getElem?_set_self (List.getElem?_eq_some_iff.1 hn).1] at hlm
    have := hV.le8 hn
    have := Option.some.inj hlm
    subst this
    simp at this; omega
  · rw [List.getElem?_set_ne hnm] at hlm; exact hV.le8 hlm
theorem CubeR.fr {lo lo' : Nat} {w w' : World} {v : Value} {d r : Int} {L : List (List Pk)} {S : Nat → Prop} (h : CubeR lo w v d r L) (hf : Fr S w w') (hS : ∀ k, lo ≤ k → k < w.heap.size → ¬ S k) (hl : lo' ≤ lo) : CubeR lo' w' v d r L := by
  obtain ⟨s, c, h1, h2⟩ := h
  refine ⟨s, c, h1, ?_⟩
  have h3 := h2.fr (buf_stab _) hf (fun k hk => hS k hk.1 hk.2)
  intro i x hi
  obtain ⟨b, o, g1, g2, s', c', g3, g4⟩ := h3 i x hi
  exact ⟨b, o, g1, ⟨Nat.le_trans hl g2.1, Nat.lt_of_lt_of_le g2.2 hf.size⟩, s', c', g3, g4.wide (fun k hk => ⟨Nat.le_trans hl hk.1, Nat.lt_of_lt_of_le hk.2 hf.size⟩)⟩
theorem PkR.fr {lo lo' : Nat} {w w' : World} {v : Value} {l : List Pk} {S : Nat → Prop} (h : PkR lo w v l) (hf : Fr S w w') (hS : ∀ k, lo ≤ k → k < w.heap.size → ¬ S k) (hl : lo' ≤ lo) : PkR lo' w' v l := by
  obtain ⟨s, c, h1, h2⟩ := h
  exact ⟨s, c, h1, (h2.fr (pk_stab _) hf (fun k hk => hS k hk.1 hk.2)).wide (fun k hk => ⟨Nat.le_trans hl hk.1, Nat.lt_of_lt_of_le hk.2 hf.size⟩)⟩
/-- a move by its switch and port -/
def doN (d a b : Int) : Nat := a.toNat * (d.toNat + 1) + b.toNat
def doE (d r : Int) (L : List (List Pk)) (a b : Int) : Int :=
  if chkE d r L ≠ 0 then chkE d r L else if a < 0 ∨ ((2 ^ d.toNat : Nat) : Int) ≤ a ∨ b < 0 ∨ d < b ∨ L.getD (doN d a b) [] = [] then 7
  else if ableB d.toNat r L (doN d a b) = false then 8 else 0
def mvL (dim : Nat) (L : List (List Pk)) (n : Nat) : List (List Pk) := match L[n]? with | some (p :: q) => movedL dim L n p q | _ => L
def mvO (dim : Nat) (L : List (List Pk)) (n : Nat) : List Pk := match L[n]? with | some (p :: _) => movedO dim n p | _ => []
def doC (d r : Int) (L : List (List Pk)) (a b : Int) : Int × Int × List (List Pk) := if doE d r L a b = 0 then (d, r, mvL d.toNat L (doN d a b)) else (0, 0, [])
def doO (d r : Int) (L : List (List Pk)) (a b : Int) : List Pk := if doE d r L a b = 0 then mvO d.toNat L (doN d a b) else []
def DoQ (lo : Nat) (d r : Int) (L : List (List Pk)) (a b : Int) (v : Value) (w : World) : Prop :=
  ∃ u o, v = .tuple #[u, o, .int .i64 (doE d r L a b)] ∧ CubeR lo w u (doC d r L a b).1 (doC d r L a b).2.1 (doC d r L a b).2.2 ∧ PkR lo w o (doO d r L a b)
theorem do_err {lo : Nat} {w : World} {d r e a b : Int} {L : List (List Pk)} (he : doE d r L a b = e) (hne : e ≠ 0) : DoQ lo d r L a b (.tuple #[.agg #[.int .i64 0, .int .i64 0, .slice none 0 0], .slice none 0 0, .int .i64 e]) w := by
  subst he
  exact ⟨_, _, rfl, by unfold doC; rw [if_neg hne]; exact CubeR.nil _ _, by unfold doO; rw [if_neg hne]; exact PkR.nil _ _⟩
theorem doE_chk {d r a b : Int} {L : List (List Pk)} (h : chkE d r L ≠ 0) : doE d r L a b = chkE d r L := by unfold doE; rw [if_pos h]
theorem doE_out {dim : Nat} {r a b : Int} {L : List (List Pk)} (hV : Valid dim r L) (h : a < 0 ∨ ((2 ^ dim : Nat) : Int) ≤ a ∨ b < 0 ∨ (dim : Int) < b) : doE dim r L a b = 7 := by
  unfold doE; rw [if_neg (by rw [hV.chk]; decide), Int.toNat_natCast, if_pos (by omega)]
theorem doE_none {dim a b : Nat} {r : Int} {L : List (List Pk)} {l : List Pk} (hV : Valid dim r L) (hl : L[a * (dim + 1) + b]? = some l) (h : ((l.length : Nat) : Int) = 0) : doE dim r L a b = 7 := by
  have : l = [] := List.eq_nil_of_length_eq_zero (by omega)
  subst this
  unfold doE doN; simp only [Int.toNat_natCast]
  rw [if_neg (by rw [hV.chk]; decide), if_pos (.inr (.inr (.inr (.inr (getD_of hl)))))]
theorem doE_stuck {dim a b : Nat} {r : Int} {L : List (List Pk)} {l : List Pk} (hV : Valid dim r L) (ha : a < 2 ^ dim) (hb : b ≤ dim) (hl : L[a * (dim + 1) + b]? = some l) (h : ¬ ((l.length : Nat) : Int) = 0) (hab : ableB dim r L (a * (dim + 1) + b) = false) : doE dim r L a b = 8 := by
  have hne : l ≠ [] := fun e => h (by rw [e]; rfl)
  unfold doE doN; simp only [Int.toNat_natCast]
  rw [if_neg (by rw [hV.chk]; decide), if_neg (by rw [getD_of hl]; rintro (h | h | h | h | h) <;> first | omega | exact hne h), if_pos hab]
theorem doE_ok {dim a b : Nat} {r : Int} {L : List (List Pk)} {l : List Pk} (hV : Valid dim r L) (ha : a < 2 ^ dim) (hb : b ≤ dim) (hl : L[a * (dim + 1) + b]? = some l) (h : ¬ ((l.length : Nat) : Int) = 0) (hab : ableB dim r L (a * (dim + 1) + b) = true) : doE dim r L a b = 0 := by
  have hne : l ≠ [] := fun e => h (by rw [e]; rfl)
  unfold doE doN; simp only [Int.toNat_natCast]
  rw [if_neg (by rw [hV.chk]; decide), if_neg (by rw [getD_of hl]; rintro (h | h | h | h | h) <;> first | omega | exact hne h), if_neg (by rw [hab]; decide)]
theorem do_ok {lo : Nat} {w : World} {dim a b : Nat} {r : Int} {L : List (List Pk)} {p : Pk} {q : List Pk} {u o : Value} (hV : Valid dim r L) (ha : a < 2 ^ dim) (hb : b ≤ dim) (hl : L[a * (dim + 1) + b]? = some (p :: q)) (hab : ableB dim r L (a * (dim + 1) + b) = true)
    (hu : CubeR lo w u dim r (movedL dim L (a * (dim + 1) + b) p q)) (ho : PkR lo w o (movedO dim (a * (dim + 1) + b) p)) : DoQ lo dim r L a b (.tuple #[u, o, .int .i64 0]) w := by
  have he := doE_ok hV ha hb hl (by simp; omega) hab
  refine ⟨u, o, by rw [he], ?_, ?_⟩
  · unfold doC; rw [if_pos he]
    simp only [doN, Int.toNat_natCast, mvL, hl]; exact hu
  · unfold doO; rw [if_pos he]
    simp only [doN, Int.toNat_natCast, mvO, hl]; exact ho
/-- a packet that goes the same way, from a link before -/
def clashB (dim : Nat) (L : List (List Pk)) (n j : Nat) : Bool :=
  match L[j]?, L[n]? with
  | some (x :: _), some (p :: _) => decide (0 ≤ tgt dim n p) && decide (tgt dim j x = tgt dim n p)
  | _, _ => false
def goesB (dim : Nat) (r : Int) (L : List (List Pk)) (n : Nat) : Bool := ableB dim r L n && (List.range n).all fun j => decide (j < n - n % (dim + 1)) || !clashB dim L n j
def noClash (dim : Nat) (L : List (List Pk)) (n m : Nat) : Prop := ∀ j, n - n % (dim + 1) ≤ j → j < m → clashB dim L n j = false
theorem able_cons {dim n : Nat} {r : Int} {L : List (List Pk)} {l : List Pk} (hn : L[n]? = some l) (h : ableB dim r L n = true) : ∃ p q, l = p :: q := by
  unfold ableB at h; rw [hn] at h
  cases l with
  | nil => cases h
  | cons p q => exact ⟨p, q, rfl⟩
theorem goes_able {dim n : Nat} {r : Int} {L : List (List Pk)} (h : ableB dim r L n = false) : Value.bool false = .bool (goesB dim r L n) := by unfold goesB; rw [h]; rfl
theorem goes_clash {dim n m : Nat} {r : Int} {L : List (List Pk)} (h1 : n - n % (dim + 1) ≤ m) (h2 : m < n) (h : clashB dim L n m = true) : Value.bool false = .bool (goesB dim r L n) := by
  have : ((List.range n).all fun j => decide (j < n - n % (dim + 1)) || !clashB dim L n j) = false := by
    rw [List.all_eq_false]
    exact ⟨m, List.mem_range.2 h2, by rw [h, decide_eq_false (by omega)]; decide⟩
  unfold goesB; rw [this, Bool.and_false]
theorem goes_yes {dim n m : Nat} {r : Int} {L : List (List Pk)} (hab : ableB dim r L n = true) (h : noClash dim L n m) (hm : n ≤ m) : Value.bool true = .bool (goesB dim r L n) := by
  have : ((List.range n).all fun j => decide (j < n - n % (dim + 1)) || !clashB dim L n j) = true := by
    rw [List.all_eq_true]
    intro j hj
    have hj := List.mem_range.1 hj
    rcases Nat.lt_or_ge j (n - n % (dim + 1)) with h1 | h1
    · rw [decide_eq_true h1]; rfl
    · rw [h j h1 (by omega)]; simp
  unfold goesB; rw [hab, this]; rfl
theorem goes_out {dim n : Nat} {r : Int} {L : List (List Pk)} {p : Pk} {q : List Pk} (hn : L[n]? = some (p :: q)) (hab : ableB dim r L n = true) (h : ¬ 0 ≤ tgt dim n p) : Value.bool true = .bool (goesB dim r L n) := by
  refine goes_yes (m := n) hab (fun j _ _ => ?_) (Nat.le_refl _)
  unfold clashB; rw [hn]
  cases hj : L[j]? with
  | none => rfl
  | some l =>
    cases l with
    | nil => rfl
    | cons x y => simp [h]
theorem clash_yes {dim n j : Nat} {L : List (List Pk)} {p x : Pk} {q y : List Pk} (hn : L[n]? = some (p :: q)) (hj : L[j]? = some (x :: y)) (h0 : 0 ≤ tgt dim n p) (h : tgt dim j x = tgt dim n p) : clashB dim L n j = true := by
  unfold clashB; rw [hn, hj]; simp [h0, h]
theorem clash_nil {dim n j : Nat} {L : List (List Pk)} {l : List Pk} (hj : L[j]? = some l) (h : ¬ (0 : Int) < (l.length : Int)) : clashB dim L n j = false := by
  have : l = [] := List.eq_nil_of_length_eq_zero (by omega)
  subst this
  unfold clashB; rw [hj]
theorem clash_no {dim n j : Nat} {L : List (List Pk)} {p x : Pk} {q y : List Pk} (hn : L[n]? = some (p :: q)) (hj : L[j]? = some (x :: y)) (h : ¬ tgt dim j x = tgt dim n p) : clashB dim L n j = false := by
  unfold clashB; rw [hn, hj]; simp [h]
theorem noClash_step {dim n m : Nat} {L : List (List Pk)} (h : noClash dim L n m) (hm : clashB dim L n m = false) : noClash dim L n (m + 1) := fun j h1 h2 => by
  rcases Nat.lt_or_ge j m with h3 | h3
  · exact h j h1 h3
  · obtain rfl : j = m := by omega
    exact hm
theorem cons_of' {α : Type} {l : List α} (h : (0 : Int) < (l.length : Int)) : ∃ p q, l = p :: q := cons_of (by omega)

/-- a round: the heads that go are taken .. -/
def rdA (dim : Nat) (r : Int) (L : List (List Pk)) : Nat → List (List Pk)
  | 0 => L
  | i + 1 => if goesB dim r L i = true then (rdA dim r L i).set i (((rdA dim r L i).getD i []).tail) else rdA dim r L i
/-- .. and put where they go -/
def rdB (dim : Nat) (r : Int) (L : List (List Pk)) : Nat → List (List Pk) × List Pk
  | 0 => (rdA dim r L L.length, [])
  | i + 1 =>
    if goesB dim r L i = true then
      match L[i]? with
      | some (p :: _) => if tgt dim i p < 0 then ((rdB dim r L i).1, (rdB dim r L i).2 ++ [p]) else ((rdB dim r L i).1.set (tgt dim i p).toNat ((rdB dim r L i).1.getD (tgt dim i p).toNat [] ++ [p]), (rdB dim r L i).2)
      | _ => rdB dim r L i
    else rdB dim r L i
theorem rdA_len (dim : Nat) (r : Int) (L : List (List Pk)) : ∀ i, (rdA dim r L i).length = L.length
  | 0 => rfl
  | i + 1 => by
    unfold rdA; split
    · rw [List.length_set]; exact rdA_len dim r L i
    · exact rdA_len dim r L i
theorem rdB_len (dim : Nat) (r : Int) (L : List (List Pk)) : ∀ i, (rdB dim r L i).1.length = L.length
  | 0 => rdA_len dim r L L.length
  | i + 1 => by
    unfold rdB; split
    · split
      · split
        · exact rdB_len dim r L i
        · rw [List.length_set]; exact rdB_len dim r L i
      · exact rdB_len dim r L i
    · exact rdB_len dim r L i
theorem rdA_get (dim : Nat) (r : Int) (L : List (List Pk)) : ∀ i j, i ≤ j → (rdA dim r L i)[j]? = L[j]?
  | 0, _, _ => rfl
  | i + 1, j, h => by
    unfold rdA; split
    · rw [List.getElem?_set_ne (by omega)]; exact rdA_get dim r L i j (by omega)
    · exact rdA_get dim r L i j (by omega)
theorem rdA_step_t {dim i : Nat} {r : Int} {L : List (List Pk)} {p : Pk} {q : List Pk} (h : goesB dim r L i = true) (hl : L[i]? = some (p :: q)) : rdA dim r L (i + 1) = (rdA dim r L i).set i q := by
  have : (rdA dim r L i)[i]? = some (p :: q) := by rw [rdA_get dim r L i i (Nat.le_refl _)]; exact hl
  conv => lhs; unfold rdA
  rw [if_pos h, getD_of this]; rfl
theorem rdA_step_f {dim i : Nat} {r : Int} {L : List (List Pk)} (h : goesB dim r L i = false) : rdA dim r L (i + 1) = rdA dim r L i := by
  conv => lhs; unfold rdA
  rw [if_neg (by rw [h]; decide)]
theorem goes_cons {dim n : Nat} {r : Int} {L : List (List Pk)} {l : List Pk} (hn : L[n]? = some l) (h : goesB dim r L n = true) : ∃ p q, l = p :: q := by
  unfold goesB at h; rw [Bool.and_eq_true] at h; exact able_cons hn h.1
theorem rdB_step_f {dim i : Nat} {r : Int} {L : List (List Pk)} (h : goesB dim r L i = false) : rdB dim r L (i + 1) = rdB dim r L i := by
  conv => lhs; unfold rdB
  rw [if_neg (by rw [h]; decide)]
theorem rdB_step_o {dim i : Nat} {r : Int} {L : List (List Pk)} {p : Pk} {q : List Pk} (h : goesB dim r L i = true) (hl : L[i]? = some (p :: q)) (ht : tgt dim i p < 0) : rdB dim r L (i + 1) = ((rdB dim r L i).1, (rdB dim r L i).2 ++ [p]) := by
  conv => lhs; unfold rdB
  rw [if_pos h, hl]; simp only; rw [if_pos ht]
theorem rdB_step_t {dim i m : Nat} {r : Int} {L : List (List Pk)} {p : Pk} {q lm : List Pk} (h : goesB dim r L i = true) (hl : L[i]? = some (p :: q)) (ht : ¬ tgt dim i p < 0) (hm : tgt dim i p = (m : Int)) (hlm : (rdB dim r L i).1[m]? = some lm) :
    rdB dim r L (i + 1) = ((rdB dim r L i).1.set m (lm ++ [p]), (rdB dim r L i).2) := by
  conv => lhs; unfold rdB
  rw [if_pos h, hl]; simp only; rw [if_neg ht, hm, Int.toNat_natCast, getD_of hlm]
theorem rdA_8 {dim : Nat} {r : Int} {L : List (List Pk)} (hV : Valid dim r L) : ∀ i l, l ∈ rdA dim r L i → l.length ≤ 8
  | 0, l, h => by obtain ⟨j, hj⟩ := List.getElem?_of_mem h; exact hV.le8 hj
  | i + 1, l, h => by
    unfold rdA at h; split at h
    · rcases List.mem_or_eq_of_mem_set h with h | h
      · exact rdA_8 hV i l h
      · subst h
        cases hg : (rdA dim r L i)[i]? with
        | none => rw [List.getD_eq_getElem?_getD, hg]; simp
        | some x => rw [getD_of hg, List.length_tail]; have := rdA_8 hV i x (List.mem_of_getElem? hg); omega
    · exact rdA_8 hV i l h
theorem rdB_8 {dim : Nat} {r : Int} {L : List (List Pk)} (hV : Valid dim r L) : ∀ i, (∀ l, l ∈ (rdB dim r L i).1 → l.length ≤ 8 + i) ∧ (rdB dim r L i).2.length ≤ i
  | 0 => ⟨fun l h => rdA_8 hV _ l h, by simp [rdB]⟩
  | i + 1 => by
    obtain ⟨h1, h2⟩ := rdB_8 hV i
    unfold rdB
    split
    · split
      · split
        · exact ⟨fun l h => by have := h1 l h; omega, by simp; omega⟩
        · refine ⟨fun l h => ?_, by simp only; omega⟩
          rcases List.mem_or_eq_of_mem_set h with h | h
          · have := h1 l h; omega
          · subst h
            rw [List.length_append, List.length_singleton]
            cases hg : (rdB dim r L i).1[(tgt dim i ‹Pk›).toNat]? with
            | none => rw [List.getD_eq_getElem?_getD, hg]; simp; omega
            | some x => rw [getD_of hg]; have := h1 x (List.mem_of_getElem? hg); omega
      · exact ⟨fun l h => by have := h1 l h; omega, by omega⟩
    · exact ⟨fun l h => by have := h1 l h; omega, by omega⟩
def rndC (d r : Int) (L : List (List Pk)) : Int × Int × List (List Pk) := if chkE d r L = 0 then (d, r, (rdB d.toNat r L L.length).1) else (0, 0, [])
def rndO (d r : Int) (L : List (List Pk)) : List Pk := if chkE d r L = 0 then (rdB d.toNat r L L.length).2 else []
def RoundQ (lo : Nat) (d r : Int) (L : List (List Pk)) (v : Value) (w : World) : Prop :=
  ∃ u o, v = .tuple #[u, o, .int .i64 (chkE d r L)] ∧ CubeR lo w u (rndC d r L).1 (rndC d r L).2.1 (rndC d r L).2.2 ∧ PkR lo w o (rndO d r L)
theorem round_bad {lo : Nat} {w : World} {d r : Int} {L : List (List Pk)} (h : chkE d r L ≠ 0) : RoundQ lo d r L (.tuple #[.agg #[.int .i64 0, .int .i64 0, .slice none 0 0], .slice none 0 0, .int .i64 (chkE d r L)]) w :=
  ⟨_, _, rfl, by unfold rndC; rw [if_neg h]; exact CubeR.nil _ _, by unfold rndO; rw [if_neg h]; exact PkR.nil _ _⟩
theorem own_pk {w : World} {lo n c : Nat} {s : Option Addr} {l : List Pk} (h : OwnS w 41 3 s n c (l.flatMap pkC)) (hn : n = l.length) (hg : ∀ k, ob s k → lo ≤ k) : PkR lo w (.slice s n c) l := by
  subst hn
  exact ⟨s, c, rfl, h.sl (by decide) rfl (fun _ _ => rfl) (fun k hk => ⟨hg k hk, h.lt hk⟩)⟩
theorem own_snocP {w : World} {s : Option Addr} {n c : Nat} {a b z : Int} {l : List Pk} (h : OwnS w 41 3 s n c (l.flatMap pkC ++ ([.int .i64 a, .int .i64 b, .int .i64 z] ++ []))) : OwnS w 41 3 s n c ((l ++ [(a, b, z)]).flatMap pkC) := by
  rw [List.flatMap_append]; exact h
theorem round_ok {lo i dim : Nat} {w : World} {r : Int} {L : List (List Pk)} {u o : Value} (hV : Valid dim r L) (hi : i ≤ L.length) (hlt : ¬ (i : Int) < (L.length : Int)) (hu : CubeR lo w u dim r (rdB dim r L i).1) (ho : PkR lo w o (rdB dim r L i).2) :
    RoundQ lo dim r L (.tuple #[u, o, .int .i64 0]) w := by
  obtain rfl : i = L.length := by omega
  exact ⟨u, o, by rw [hV.chk], by unfold rndC; rw [if_pos hV.chk, Int.toNat_natCast]; exact hu, by unfold rndO; rw [if_pos hV.chk, Int.toNat_natCast]; exact ho⟩

theorem leftN_set {dim n : Nat} {x : List Pk} : ∀ {i : Nat} {L : List (List Pk)}, n < i → n < L.length → leftN dim (L.set n x) i + leftB dim n (L.getD n []) = leftN dim L i + leftB dim n x := by
  intro i L hi hn
  have key : ∀ i, i ≤ n → leftN dim (L.set n x) i = leftN dim L i := fun i h => by
    unfold leftN
    congr 1
    apply List.map_congr_left
    intro j hj
    have := List.mem_range.1 hj
    rw [List.getD_eq_getElem?_getD, List.getD_eq_getElem?_getD, List.getElem?_set_ne (by omega)]
  induction i with
  | zero => omega
  | succ i ih =>
    have e : ∀ M : List (List Pk), leftN dim M (i + 1) = leftN dim M i + leftB dim i (M.getD i []) := fun M => by unfold leftN; rw [List.range_succ]; simp
    rw [e, e]
    rcases Nat.lt_or_ge n i with h | h
    · have := ih h
      rw [List.getD_eq_getElem?_getD (l := L.set n x), List.getElem?_set_ne (by omega), ← List.getD_eq_getElem?_getD]; omega
    · obtain rfl : i = n := by omega
      rw [key i (Nat.le_refl _), List.getD_eq_getElem?_getD (l := L.set i x), List.getElem?_set_self hn, Option.getD_some]; omega
theorem over_over0 : ∀ s : Fin 8, ∀ k : Fin 3, overN (overN s k) k = s.val := by decide
theorem hop_next0 : ∀ a : Fin 8, ∀ b : Fin 8, ∀ s : Fin 8, ((s.val : Int) ∈ wayL a b) → (0 : Int) ≤ bitN s b → hop (wayL a b) (overN s (bitN s b).toNat) s = true := by decide
theorem hop_mem {l : List Int} {s q : Nat} (h : hop l s q = true) : ((s : Nat) : Int) ∈ l := by
  unfold hop at h
  rw [List.any_eq_true] at h
  obtain ⟨i, _, h⟩ := h
  rw [Bool.and_eq_true, Bool.and_eq_true] at h
  exact List.mem_of_getElem? (of_decide_eq_true h.2.1)
theorem way_head (a b : Nat) : ((a : Nat) : Int) ∈ wayL a b := by
  unfold wayL; cases cnt a b <;> simp [wayFrom]
theorem div_at {d m k : Nat} (hk : k < d + 1) : (m * (d + 1) + k) / (d + 1) = m ∧ (m * (d + 1) + k) % (d + 1) = k := by
  constructor
  · rw [Nat.mul_comm, Nat.mul_add_div (by omega), Nat.div_eq_of_lt hk, Nat.add_zero]
  · rw [Nat.mul_comm, Nat.mul_add_mod, Nat.mod_eq_of_lt hk]
/-- where the first packet of a buffer goes, told by its way -/
theorem tgt_cases {dim n a b : Nat} {z : Int} (hd : dim ≤ 3) (hs : n / (dim + 1) < 2 ^ dim) (hb : b < 2 ^ dim) :
    (tgt dim n ((a : Int), (b : Int), z) < 0 ∧ cnt (n / (dim + 1)) b = 0) ∨
    ∃ k : Nat, bitN (n / (dim + 1)) b = (k : Int) ∧ k < dim ∧ overN (n / (dim + 1)) k < 2 ^ dim ∧ tgt dim n ((a : Int), (b : Int), z) = ((overN (n / (dim + 1)) k * (dim + 1) + k : Nat) : Int) ∧ cnt (overN (n / (dim + 1)) k) b + 1 = cnt (n / (dim + 1)) b := by
  have h8 := pow2_le dim (Nat.le_refl _) hd
  rcases Int.lt_or_le (bitN (n / (dim + 1)) b) 0 with h | h
  · left
    have h1 := tgt_none (dim := dim) (a := (a : Int)) (l := z) h
    simp only [Value.int.injEq, true_and] at h1
    exact ⟨by omega, cnt_zero0 ⟨_, by omega⟩ ⟨b, by omega⟩ (by show ¬ (0 : Int) ≤ bitN (n / (dim + 1)) b; omega)⟩
  · right
    obtain ⟨k, hk, _⟩ := bit_nat h
    obtain ⟨h1, h2⟩ := over_dim hd hs hb hk
    have h3 := tgt_some (dim := dim) (a := (a : Int)) (l := z) hk
    simp only [Value.int.injEq, true_and] at h3
    exact ⟨k, hk, h2, h1, h3.symm, cnt_step (by omega) (by omega) hk⟩
theorem can_next {dim s port a b k : Nat} {z : Int} (hd : dim ≤ 3) (hs : s < 2 ^ dim) (ha : a < 2 ^ dim) (hb : b < 2 ^ dim) (h : canB dim ((a : Int), (b : Int), z) s port = true) (hk : bitN s b = (k : Int)) (hk3 : k < dim) :
    canB dim ((a : Int), (b : Int), z) (overN s k) k = true := by
  have h8 := pow2_le dim (Nat.le_refl _) hd
  have hm : ((s : Nat) : Int) ∈ wayL a b := by
    by_cases hp : port = dim
    · unfold canB at h
      rw [if_neg (by simp only; omega), if_pos hp] at h
      have h := of_decide_eq_true h
      simp only at h
      have : a = s := by omega
      subst this; exact way_head a b
    · rw [can_way ha hb (by omega)] at h
      exact hop_mem h
  rw [can_way ha hb (by omega)]
  have h1 := hop_next0 ⟨a, by omega⟩ ⟨b, by omega⟩ ⟨s, by omega⟩ hm (by show (0 : Int) ≤ bitN s b; omega)
  simp only [hk, Int.toNat_natCast] at h1
  have h2 := over_over0 ⟨s, by omega⟩ ⟨k, by omega⟩
  simp only at h2
  rw [h2]; exact h1
theorem valid_of {dim : Nat} {r : Int} {L : List (List Pk)} (hd : dim ≤ 3) (hr : 1 ≤ r ∧ r ≤ 8) (hl : L.length = 2 ^ dim * (dim + 1)) (h : ∀ (n : Nat) (l : List Pk), L[n]? = some l → (l.length : Int) ≤ r ∧ ∀ p ∈ l, canB dim p (n / (dim + 1)) (n % (dim + 1)) = true) : Valid dim r L := by
  refine ⟨hd, hr, ?_⟩
  unfold formB
  rw [decide_eq_true hl, Bool.true_and, List.all_eq_true]
  intro n hn
  obtain ⟨l, hl⟩ : ∃ l, L[n]? = some l := ⟨_, List.getElem?_eq_getElem (List.mem_range.1 hn)⟩
  rw [getD_of hl]
  obtain ⟨h1, h2⟩ := h n l hl
  unfold bufOk
  rw [decide_eq_true h1, Bool.true_and, List.all_eq_true]
  exact h2
theorem Valid.set {dim n : Nat} {r : Int} {L : List (List Pk)} {x : List Pk} (hV : Valid dim r L) (h : (x.length : Int) ≤ r ∧ ∀ p ∈ x, canB dim p (n / (dim + 1)) (n % (dim + 1)) = true) : Valid dim r (L.set n x) := by
  refine valid_of hV.hd hV.hr (by rw [List.length_set]; exact hV.len) (fun m l hl => ?_)
  by_cases hnm : n = m
  · subst hnm
    have hlt : n < L.length := by have := (List.getElem?_eq_some_iff.1 hl).1; rwa [List.length_set] at this
    rw [List.getElem?_set_self hlt] at hl
    obtain rfl := Option.some.inj hl
    exact h
  · rw [List.getElem?_set_ne hnm] at hl; exact hV.buf hl
theorem leftB_cons (dim n : Nat) (p : Pk) (q : List Pk) : leftB dim n (p :: q) = wayN dim n p + leftB dim n q := by simp [leftB]
theorem leftB_snoc (dim n : Nat) (p : Pk) (q : List Pk) : leftB dim n (q ++ [p]) = leftB dim n q + wayN dim n p := by simp [leftB]
theorem way_size (a b : Nat) : (wayL a b).length = cnt a b + 1 := by unfold wayL; rw [wayFrom_len]
/-- a move keeps a cube valid, and makes what is left less by one -/
theorem moved_valid {dim n : Nat} {r : Int} {L : List (List Pk)} {p : Pk} {q : List Pk} (hV : Valid dim r L) (hn : L[n]? = some (p :: q)) (hab : ableB dim r L n = true) :
    Valid dim r (movedL dim L n p q) ∧ leftN dim (movedL dim L n p q) L.length + 1 = leftN dim L L.length := by
  obtain ⟨hn1, hn2, hn3, hn4⟩ := hV.at hn
  have hlt := (List.getElem?_eq_some_iff.1 hn).1
  have hbuf := hV.buf hn
  have hcan := hbuf.2 p (List.mem_cons_self ..)
  obtain ⟨a, b, hp, ha, hb⟩ := can_in hcan
  have hV1 : Valid dim r (L.set n q) := hV.set ⟨by have := hbuf.1; simp only [List.length_cons] at this; omega, fun x hx => hbuf.2 x (List.mem_cons_of_mem _ hx)⟩
  have hl1 := leftN_set (dim := dim) (x := q) hlt hlt
  rw [getD_of hn, leftB_cons] at hl1
  obtain ⟨p1, p2, z⟩ := p
  injection hp with e1 hp
  injection hp with e2 e3
  subst e1; subst e2
  have hw : wayN dim n ((a : Int), (b : Int), z) = cnt (n / (dim + 1)) b + 1 := by simp only [wayN, Int.toNat_natCast]; exact way_size _ _
  unfold movedL
  rcases tgt_cases (a := a) (z := z) hV.hd hn2 hb with ⟨h1, h2⟩ | ⟨k, hk, hkd, hov, ht, hc⟩
  · rw [if_pos h1]
    exact ⟨hV1, by rw [hw, h2] at hl1; omega⟩
  · have hge : ¬ tgt dim n ((a : Int), (b : Int), z) < 0 := by rw [ht]; omega
    rw [if_neg hge, ht, Int.toNat_natCast]
    have hm : overN (n / (dim + 1)) k * (dim + 1) + k < L.length := by rw [hV.len]; exact at_lt hov (by omega)
    obtain ⟨l, hl⟩ : ∃ l, L[overN (n / (dim + 1)) k * (dim + 1) + k]? = some l := ⟨_, List.getElem?_eq_getElem hm⟩
    have hne : n ≠ overN (n / (dim + 1)) k * (dim + 1) + k := fun e => by
      have := (div_at (d := dim) (m := overN (n / (dim + 1)) k) (k := k) (by omega)).1
      rw [← e] at this
      rw [← this] at hc; omega
    have hl2 : (L.set n q)[overN (n / (dim + 1)) k * (dim + 1) + k]? = some l := by rw [List.getElem?_set_ne hne]; exact hl
    rw [getD_of hl2]
    obtain ⟨d1, d2⟩ := div_at (d := dim) (m := overN (n / (dim + 1)) k) (k := k) (by omega)
    have hroom : (l.length : Int) < r := by
      unfold ableB at hab
      rw [hn] at hab
      simp only [ht, Int.toNat_natCast, getD_of hl, Bool.or_eq_true, decide_eq_true_eq] at hab
      omega
    have hbl := hV.buf hl
    have hcn := can_next (z := z) hV.hd hn2 ha hb hcan hk hkd
    refine ⟨hV1.set ⟨by rw [List.length_append]; simp only [List.length_singleton]; omega, fun x hx => ?_⟩, ?_⟩
    · rcases List.mem_append.1 hx with hx | hx
      · exact hbl.2 x hx
      · rw [List.mem_singleton.1 hx, d1, d2]; exact hcn
    · have hl3 := leftN_set (dim := dim) (i := L.length) (L := L.set n q) (n := overN (n / (dim + 1)) k * (dim + 1) + k) (x := l ++ [((a : Int), (b : Int), z)]) hm (by rw [List.length_set]; exact hm)
      rw [getD_of hl2, leftB_snoc] at hl3
      have hw2 : wayN dim (overN (n / (dim + 1)) k * (dim + 1) + k) ((a : Int), (b : Int), z) = cnt (overN (n / (dim + 1)) k) b + 1 := by simp only [wayN, Int.toNat_natCast, d1]; exact way_size _ _
      rw [hw2] at hl3
      rw [hw] at hl1
      omega

/-- which move is picked -/
def pickN (dim : Nat) (picks : List Int) (ms : List (Nat × Nat)) (m : Nat) : Nat := if m < picks.length then ((picks.getD m 0).toNat % ms.length) else 0
def pickAt (dim : Nat) (picks : List Int) (ms : List (Nat × Nat)) (m : Nat) : Nat := (ms.getD (pickN dim picks ms m) (0, 0)).1 * (dim + 1) + (ms.getD (pickN dim picks ms m) (0, 0)).2
/-- moves as long as one can be done -/
def runF (dim : Nat) (r : Int) (picks : List Int) : Nat → List (List Pk) → Nat → List Pk → List Pk × Nat
  | 0, _, m, o => (o, m)
  | f + 1, L, m, o =>
    if movesL dim r L L.length = [] then (o, m)
    else runF dim r picks f (mvL dim L (pickAt dim picks (movesL dim r L L.length) m)) (m + 1) (o ++ mvO dim L (pickAt dim picks (movesL dim r L L.length) m))
theorem moves_mem {dim i s k : Nat} {r : Int} {L : List (List Pk)} (hd : 0 < dim + 1) (h : (s, k) ∈ movesL dim r L i) : s * (dim + 1) + k < i ∧ ableB dim r L (s * (dim + 1) + k) = true := by
  unfold movesL at h
  rw [List.mem_map] at h
  obtain ⟨n, hn, he⟩ := h
  rw [List.mem_filter, List.mem_range] at hn
  injection he with e1 e2
  subst e1; subst e2
  have : n / (dim + 1) * (dim + 1) + n % (dim + 1) = n := by rw [Nat.mul_comm]; exact Nat.div_add_mod n (dim + 1)
  rw [this]; exact hn
theorem able_some {dim n : Nat} {r : Int} {L : List (List Pk)} (h : ableB dim r L n = true) : ∃ p q, L[n]? = some (p :: q) := by
  unfold ableB at h
  cases hl : L[n]? with
  | none => rw [hl] at h; cases h
  | some l =>
    cases l with
    | nil => rw [hl] at h; cases h
    | cons p q => exact ⟨p, q, rfl⟩
theorem pick_mem {dim m : Nat} {picks : List Int} {ms : List (Nat × Nat)} (h : ms ≠ []) : pickN dim picks ms m < ms.length := by
  have : 0 < ms.length := List.length_pos_iff.2 h
  unfold pickN; split
  · exact Nat.mod_lt _ this
  · exact this
theorem pick_able {dim m : Nat} {r : Int} {picks : List Int} {L : List (List Pk)} (h : movesL dim r L L.length ≠ []) :
    pickAt dim picks (movesL dim r L L.length) m < L.length ∧ ableB dim r L (pickAt dim picks (movesL dim r L L.length) m) = true := by
  have hlt := pick_mem (dim := dim) (m := m) (picks := picks) h
  have hm := List.getElem_mem hlt
  have he : (movesL dim r L L.length).getD (pickN dim picks (movesL dim r L L.length) m) (0, 0) = (movesL dim r L L.length)[pickN dim picks (movesL dim r L L.length) m] := by
    rw [List.getD_eq_getElem?_getD, List.getElem?_eq_getElem hlt]; rfl
  unfold pickAt
  rw [he]
  exact moves_mem (by omega) hm

/-- what lies in an opened value -/
def tget (v : Value) (i : Nat) : Value := match v with | .tuple xs => xs.getD i undef | _ => undef
def aget (v : Value) (i : Nat) : Value := match v with | .agg xs => xs.getD i undef | _ => undef
def sad (v : Value) : Option Addr := match v with | .slice s _ _ => s | _ => none
def scp (v : Value) : Nat := match v with | .slice _ _ c => c | _ => 0
theorem ne_len {α : Type} {l : List α} (h : (0 : Int) < (l.length : Int)) : l ≠ [] := fun e => by rw [e] at h; simp at h
theorem all_at {l : List Int} {i : Nat} {z : Int} (h : l.all (fun z => decide (0 ≤ z)) = true) (hz : l[i]? = some z) : 0 ≤ z := of_decide_eq_true (List.all_eq_true.1 h z (List.mem_of_getElem? hz))
theorem PkS.lt {F : Nat → Prop} {w : World} {s : Option Addr} {l : List Pk} (h : PkS F w s l) : PkS (fun k => F k ∧ k < w.heap.size) w s l := fun i x hi => by
  obtain ⟨b, o, h1, h2, h3⟩ := h i x hi
  exact ⟨b, o, h1, ⟨h2, World.block_lt_of_cell? w ⟨b, _, none⟩ (h3 0 _ rfl)⟩, h3⟩
theorem BufS.lt {F : Nat → Prop} {w : World} {s : Option Addr} {L : List (List Pk)} (h : BufS F w s L) : BufS (fun k => F k ∧ k < w.heap.size) w s L := fun i x hi => by
  obtain ⟨b, o, h1, h2, s', c', h3, h4⟩ := h i x hi
  exact ⟨b, o, h1, ⟨h2, World.block_lt_of_cell? w ⟨b, _, none⟩ h3⟩, s', c', h3, PkS.lt h4⟩
theorem BufS.wide {F F' : Nat → Prop} {w : World} {s : Option Addr} {L : List (List Pk)} (h : BufS F w s L) (h1 : ∀ b, F b → F' b) : BufS F' w s L := fun i x hi => by
  obtain ⟨b, o, g1, g2, s', c', g3, g4⟩ := h i x hi
  exact ⟨b, o, g1, h1 _ g2, s', c', g3, g4.wide h1⟩
/-- over a step that turns none of its blocks, and told anew -/
theorem BufS.on {F F' S : Nat → Prop} {w w' : World} {s : Option Addr} {L : List (List Pk)} (h : BufS F w s L) (hf : Fr S w w') (hS : ∀ k, F k → k < w.heap.size → ¬ S k) (h1 : ∀ k, F k → k < w.heap.size → F' k) : BufS F' w' s L :=
  BufS.wide (h.lt.fr (buf_stab _) hf (fun k hk => hS k hk.1 hk.2)) (fun k hk => h1 k hk.1 hk.2)
theorem MvS.on {F F' S : Nat → Prop} {w w' : World} {s : Option Addr} {l : List (Nat × Nat)} (h : MvS F w s l) (hf : Fr S w w') (hS : ∀ k, F k → ¬ S k) (h1 : ∀ k, F k → F' k) : MvS F' w' s l :=
  (h.fr (Fl.stab _ mvC) hf hS).wide h1
theorem movesV {P : Program} {f : FuncId} {args : List Value} {S : Nat → Prop} {w : World} {lo dim : Nat} {r : Int} {L : List (List Pk)} (hV : Valid dim r L) (h : CT P f args w S (MovesQ lo dim r L)) :
    CT P f args w S (fun v w' => ∃ s c, v = .tuple #[.slice s (movesL dim r L L.length).length c, .int .i64 0] ∧ MvS (Iv lo w'.heap.size) w' s (movesL dim r L L.length)) :=
  h.mono (fun _ _ h => h) fun v w' _ ⟨u, h1, s, c, h2, h3⟩ => by
    have e : movesQ (dim : Int) r L = movesL dim r L L.length := by unfold movesQ; rw [if_pos hV.chk, Int.toNat_natCast]
    rw [e] at h2 h3
    rw [hV.chk] at h1
    exact ⟨s, c, by rw [h1, h2], h3⟩
/-- a move's outcome, within an interval of blocks -/
def MovedI (I : Nat × Nat) (dim : Nat) (r : Int) (L : List (List Pk)) (n : Nat) (p : Pk) (q : List Pk) (v : Value) (w : World) : Prop :=
  ∃ (s : Option Addr) (c : Nat) (so : Option Addr) (co : Nat), v = .tuple #[.agg #[.int .i64 dim, .int .i64 r, .slice s (movedL dim L n p q).length c], .slice so (movedO dim n p).length co] ∧
    BufS (Iv I.1 I.2) w s (movedL dim L n p q) ∧ PkS (Iv I.1 I.2) w so (movedO dim n p)
theorem MovedQ.in {lo dim n : Nat} {r : Int} {L : List (List Pk)} {p : Pk} {q : List Pk} {v : Value} {w : World} (h : MovedQ lo dim r L n p q v w) : MovedI (lo, w.heap.size) dim r L n p q v w := by
  obtain ⟨u, o, rfl, ⟨s, c, rfl, h1⟩, ⟨so, co, rfl, h2⟩⟩ := h
  exact ⟨s, c, so, co, rfl, h1, h2⟩
theorem MovedI.fr {I : Nat × Nat} {dim n : Nat} {r : Int} {L : List (List Pk)} {p : Pk} {q : List Pk} {v : Value} {w w' : World} {S : Nat → Prop} (h : MovedI I dim r L n p q v w) (hf : Fr S w w') (hS : ∀ k, I.1 ≤ k → k < I.2 → ¬ S k) : MovedI I dim r L n p q v w' := by
  obtain ⟨s, c, so, co, rfl, h1, h2⟩ := h
  exact ⟨s, c, so, co, rfl, h1.fr (buf_stab _) hf (fun k hk => hS k hk.1 hk.2), h2.fr (pk_stab _) hf (fun k hk => hS k hk.1 hk.2)⟩
theorem moves_at {dim k i : Nat} {r : Int} {L : List (List Pk)} {x : Nat × Nat} (h : (movesL dim r L i)[k]? = some x) : ∃ n, n < i ∧ ableB dim r L n = true ∧ x = (n / (dim + 1), n % (dim + 1)) := by
  have hm := List.mem_of_getElem? h
  unfold movesL at hm
  rw [List.mem_map] at hm
  obtain ⟨n, hn, he⟩ := hm
  rw [List.mem_filter, List.mem_range] at hn
  exact ⟨n, hn.1, hn.2, he.symm⟩
theorem div_mod_n (n d : Nat) : n / (d + 1) * (d + 1) + n % (d + 1) = n := by rw [Nat.mul_comm]; exact Nat.div_add_mod n (d + 1)
theorem pickAt_eq {dim m k n : Nat} {picks : List Int} {ms : List (Nat × Nat)} (hk : pickN dim picks ms m = k) (h : ms[k]? = some (n / (dim + 1), n % (dim + 1))) : pickAt dim picks ms m = n := by
  unfold pickAt
  rw [hk, List.getD_eq_getElem?_getD, h, Option.getD_some]
  exact div_mod_n n dim
theorem pick_some {dim m z : Nat} {picks : List Int} {ms : List (Nat × Nat)} (h : picks[m]? = some (z : Int)) : pickN dim picks ms m = z % ms.length := by
  unfold pickN
  rw [if_pos (List.getElem?_eq_some_iff.1 h).1, List.getD_eq_getElem?_getD, h, Option.getD_some, Int.toNat_natCast]
theorem pick_none {dim m : Nat} {picks : List Int} {ms : List (Nat × Nat)} (h : ¬ (m : Int) < (picks.length : Int)) : pickN dim picks ms m = 0 := by
  unfold pickN; rw [if_neg (by omega)]
theorem movedO_len (dim n : Nat) (p : Pk) : (movedO dim n p).length ≤ 1 := by unfold movedO; split <;> simp
theorem run_step {dim m n : Nat} {r : Int} {picks : List Int} {L : List (List Pk)} {o : List Pk} {p : Pk} {q : List Pk} {R : List Pk × Nat} (hV : Valid dim r L) (hn : L[n]? = some (p :: q)) (hab : ableB dim r L n = true)
    (hk : pickAt dim picks (movesL dim r L L.length) m = n) (hne : movesL dim r L L.length ≠ []) (h : runF dim r picks (leftN dim L L.length) L m o = R) :
    runF dim r picks (leftN dim (movedL dim L n p q) (movedL dim L n p q).length) (movedL dim L n p q) (m + 1) (o ++ movedO dim n p) = R := by
  have h1 := (moved_valid hV hn hab).2
  have h2 : (movedL dim L n p q).length = L.length := by rw [(moved_valid hV hn hab).1.len, hV.len]
  rw [h2]
  rw [← h, ← h1]
  conv => rhs; unfold runF
  rw [if_neg hne, hk]
  simp only [mvL, mvO, hn]
theorem run_end {dim m : Nat} {r : Int} {picks : List Int} {L : List (List Pk)} {o : List Pk} {R : List Pk × Nat} (hne : movesL dim r L L.length = []) (h : runF dim r picks (leftN dim L L.length) L m o = R) : R = (o, m) := by
  rw [← h]
  cases leftN dim L L.length with
  | zero => rfl
  | succ f => unfold runF; rw [if_pos hne]
/-- a run -/
def runE (d r : Int) (L : List (List Pk)) (picks : List Int) : Int := if chkE d r L ≠ 0 then chkE d r L else if 60 < picks.length then 5 else if picks.all (fun z => decide (0 ≤ z)) = true then 0 else 3
def runR (d r : Int) (L : List (List Pk)) (picks : List Int) : List Pk × Nat := if runE d r L picks = 0 then runF d.toNat r picks (leftN d.toNat L L.length) L 0 [] else ([], 0)
def RunQ (lo : Nat) (d r : Int) (L : List (List Pk)) (picks : List Int) (v : Value) (w : World) : Prop :=
  ∃ o, v = .tuple #[o, .int .i64 ((runR d r L picks).2 : Nat), .int .i64 (runE d r L picks)] ∧ PkR lo w o (runR d r L picks).1
theorem run_err {lo : Nat} {w : World} {d r e : Int} {L : List (List Pk)} {picks : List Int} (he : runE d r L picks = e) (hne : e ≠ 0) : RunQ lo d r L picks (.tuple #[.slice none 0 0, .int .i64 0, .int .i64 e]) w := by
  subst he
  have h : runR d r L picks = ([], 0) := by unfold runR; rw [if_neg hne]
  exact ⟨_, by rw [h]; rfl, by rw [h]; exact PkR.nil _ _⟩
theorem runE_chk {d r : Int} {L : List (List Pk)} {picks : List Int} (h : chkE d r L ≠ 0) : runE d r L picks = chkE d r L := by unfold runE; rw [if_pos h]
theorem runE_many {dim : Nat} {r : Int} {L : List (List Pk)} {picks : List Int} (hV : Valid dim r L) (h : (60 : Int) < (picks.length : Int)) : runE dim r L picks = 5 := by
  unfold runE; rw [if_neg (by rw [hV.chk]; decide), if_pos (by omega)]
theorem runE_neg {dim i : Nat} {r z : Int} {L : List (List Pk)} {picks : List Int} (hV : Valid dim r L) (h : ¬ (60 : Int) < (picks.length : Int)) (hz : picks[i]? = some z) (hn : z < 0) : runE dim r L picks = 3 := by
  unfold runE; rw [if_neg (by rw [hV.chk]; decide), if_neg (by omega), if_neg]
  rw [List.all_eq_true]
  exact fun h => by have := of_decide_eq_true (h z (List.mem_of_getElem? hz)); omega
theorem runE_ok {dim : Nat} {r : Int} {L : List (List Pk)} {picks : List Int} (hV : Valid dim r L) (h : ¬ (60 : Int) < (picks.length : Int)) (hz : picks.all (fun z => decide (0 ≤ z)) = true) : runE dim r L picks = 0 := by
  unfold runE; rw [if_neg (by rw [hV.chk]; decide), if_neg (by omega), if_pos hz]
theorem run_ok {lo dim m : Nat} {w : World} {r : Int} {L L2 : List (List Pk)} {picks : List Int} {o : List Pk} {s : Option Addr} {n c : Nat} (hV : Valid dim r L) (h : ¬ (60 : Int) < (picks.length : Int)) (hz : picks.all (fun z => decide (0 ≤ z)) = true)
    (hr : runF dim r picks (leftN dim L2 L2.length) L2 m o = runF dim r picks (leftN dim L L.length) L 0 []) (hne : ¬ (0 : Int) < (movesL dim r L2 L2.length).length) (ho : OwnS w 41 3 s n c (o.flatMap pkC)) (hn : n = o.length) (hg : ∀ k, ob s k → lo ≤ k) :
    RunQ lo dim r L picks (.tuple #[.slice s n c, .int .i64 m, .int .i64 0]) w := by
  have he := runE_ok (L := L) hV h hz
  have h1 := run_end (List.eq_nil_of_length_eq_zero (by omega)) hr
  have h2 : runR dim r L picks = (o, m) := by unfold runR; rw [if_pos he, Int.toNat_natCast, h1]
  exact ⟨_, by rw [h2, he], by rw [h2]; exact own_pk ho hn hg⟩
theorem own_app {w : World} {s : Option Addr} {n c : Nat} {l l2 : List Pk} (h : OwnS w 41 3 s n c (l.flatMap pkC ++ l2.flatMap pkC)) : OwnS w 41 3 s n c ((l ++ l2).flatMap pkC) := by
  rw [List.flatMap_append]; exact h

theorem goes_some {dim n : Nat} {r : Int} {L : List (List Pk)} (h : goesB dim r L n = true) : ableB dim r L n = true ∧ ∃ p q, L[n]? = some (p :: q) := by
  unfold goesB at h
  rw [Bool.and_eq_true] at h
  exact ⟨h.1, able_some h.1⟩
/-- where the head of a buffer goes, with all that is known of it -/
theorem tgt_info {dim n : Nat} {r : Int} {L : List (List Pk)} {p : Pk} {q : List Pk} (hV : Valid dim r L) (hn : L[n]? = some (p :: q)) :
    (tgt dim n p < 0 ∧ wayN dim n p = 1) ∨
    ∃ m k : Nat, tgt dim n p = (m : Int) ∧ m < L.length ∧ k < dim ∧ m = overN (n / (dim + 1)) k * (dim + 1) + k ∧ bitN (n / (dim + 1)) p.2.1.toNat = (k : Int) ∧ wayN dim m p + 1 = wayN dim n p ∧ canB dim p (m / (dim + 1)) (m % (dim + 1)) = true ∧ m ≠ n := by
  obtain ⟨hn1, hn2, hn3, hn4⟩ := hV.at hn
  have hcan := (hV.buf hn).2 p (List.mem_cons_self ..)
  obtain ⟨a, b, hp, ha, hb⟩ := can_in hcan
  obtain ⟨p1, p2, z⟩ := p
  injection hp with e1 hp
  injection hp with e2 e3
  subst e1; subst e2
  have hw : wayN dim n ((a : Int), (b : Int), z) = cnt (n / (dim + 1)) b + 1 := by simp only [wayN, Int.toNat_natCast]; exact way_size _ _
  rcases tgt_cases (a := a) (z := z) hV.hd hn2 hb with ⟨h1, h2⟩ | ⟨k, hk, hkd, hov, ht, hc⟩
  · left; exact ⟨h1, by omega⟩
  · right
    obtain ⟨d1, d2⟩ := div_at (d := dim) (m := overN (n / (dim + 1)) k) (k := k) (by omega)
    have hw2 : wayN dim (overN (n / (dim + 1)) k * (dim + 1) + k) ((a : Int), (b : Int), z) = cnt (overN (n / (dim + 1)) k) b + 1 := by simp only [wayN, Int.toNat_natCast, d1]; exact way_size _ _
    refine ⟨_, k, ht, by rw [hV.len]; exact at_lt hov (by omega), hkd, rfl, by simpa using hk, by omega, by rw [d1, d2]; exact can_next (z := z) hV.hd hn2 ha hb hcan hk hkd, fun e => ?_⟩
    rw [e] at hw2; omega
theorem goes_uniq {dim i j : Nat} {r t : Int} {L : List (List Pk)} {p x : Pk} {q y : List Pk} (hV : Valid dim r L) (hi : L[i]? = some (p :: q)) (hj : L[j]? = some (x :: y)) (gi : goesB dim r L i = true) (hlt : j < i) (ht : tgt dim i p = t) (ht2 : tgt dim j x = t) (h0 : 0 ≤ t) : False := by
  rcases tgt_info hV hi with ⟨h, _⟩ | ⟨m, k, h1, h2, h3, h4, _, _⟩
  · omega
  rcases tgt_info hV hj with ⟨h, _⟩ | ⟨m', k', g1, g2, g3, g4, _, _⟩
  · omega
  obtain rfl : m = m' := by omega
  obtain ⟨hi1, hi2, hi3, hi4⟩ := hV.at hi
  obtain ⟨hj1, hj2, hj3, hj4⟩ := hV.at hj
  have hd := hV.hd
  obtain ⟨d1, d2⟩ := div_at (d := dim) (m := overN (i / (dim + 1)) k) (k := k) (by omega)
  obtain ⟨c1, c2⟩ := div_at (d := dim) (m := overN (j / (dim + 1)) k') (k := k') (by omega)
  rw [← h4] at d1 d2
  rw [← g4] at c1 c2
  obtain rfl : k = k' := by omega
  have o1 := over_over0 ⟨i / (dim + 1), hi3⟩ ⟨k, by omega⟩
  have o2 := over_over0 ⟨j / (dim + 1), hj3⟩ ⟨k, by omega⟩
  simp only at o1 o2
  rw [← d1] at o1
  rw [← c1, o1] at o2
  have hcl : clashB dim L i j = true := clash_yes hi hj (by omega) (by omega)
  unfold goesB at gi
  rw [Bool.and_eq_true, List.all_eq_true] at gi
  have := gi.2 j (List.mem_range.2 hlt)
  rw [hcl, Bool.or_eq_true] at this
  rcases this with h | h
  · have h := of_decide_eq_true h
    have e1 := Nat.div_add_mod i (dim + 1)
    have e2 := Nat.div_add_mod j (dim + 1)
    rw [o2] at e1
    omega
  · cases h
/-- what comes to a buffer -/
def comeL (dim : Nat) (r : Int) (L : List (List Pk)) : Nat → Nat → List Pk
  | 0, _ => []
  | i + 1, m => comeL dim r L i m ++ (if goesB dim r L i = true then match L[i]? with | some (p :: _) => if tgt dim i p = (m : Int) then [p] else [] | _ => [] else [])
theorem rdA_at {dim m : Nat} {r : Int} {L : List (List Pk)} {l : List Pk} (hl : L[m]? = some l) : ∀ i, (rdA dim r L i)[m]? = some (if m < i ∧ goesB dim r L m = true then l.tail else l)
  | 0 => by rw [if_neg (by omega)]; exact hl
  | i + 1 => by
    have ih := rdA_at (dim := dim) (r := r) hl i
    have hlt : m < (rdA dim r L i).length := (List.getElem?_eq_some_iff.1 ih).1
    unfold rdA
    by_cases hg : goesB dim r L i = true
    · rw [if_pos hg]
      by_cases hm : i = m
      · subst hm
        rw [List.getElem?_set_self hlt, if_pos ⟨by omega, hg⟩, getD_of ih, if_neg (by omega)]
      · rw [List.getElem?_set_ne hm, ih]
        congr 1
        by_cases h1 : m < i ∧ goesB dim r L m = true
        · rw [if_pos h1, if_pos ⟨by omega, h1.2⟩]
        · rw [if_neg h1, if_neg (fun h => h1 ⟨by omega, h.2⟩)]
    · rw [if_neg hg, ih]
      congr 1
      by_cases h1 : m < i ∧ goesB dim r L m = true
      · rw [if_pos h1, if_pos ⟨by omega, h1.2⟩]
      · rw [if_neg h1, if_neg (fun h => h1 ⟨by have := h.1; have h2 := h.2; have : i ≠ m := fun e => hg (by rw [e]; exact h2); omega, h.2⟩)]
theorem rdB_at {dim m : Nat} {r : Int} {L : List (List Pk)} {l : List Pk} (hV : Valid dim r L) (hl : (rdA dim r L L.length)[m]? = some l) : ∀ i, (rdB dim r L i).1[m]? = some (l ++ comeL dim r L i m)
  | 0 => by unfold rdB comeL; rw [List.append_nil]; exact hl
  | i + 1 => by
    have ih := rdB_at hV hl i
    have hlt : m < (rdB dim r L i).1.length := (List.getElem?_eq_some_iff.1 ih).1
    unfold rdB comeL
    by_cases hg : goesB dim r L i = true
    · obtain ⟨_, p, q, hp⟩ := goes_some hg
      rw [if_pos hg, if_pos hg, hp]
      simp only
      rcases tgt_info hV hp with ⟨h, _⟩ | ⟨t, k, h1, h2, _⟩
      · rw [if_pos h, if_neg (by omega), List.append_nil]; exact ih
      · rw [h1, if_neg (by omega), Int.toNat_natCast]
        simp only
        by_cases hm : t = m
        · subst hm
          rw [List.getElem?_set_self hlt, if_pos rfl, getD_of ih, List.append_assoc]
        · rw [List.getElem?_set_ne hm, if_neg (by omega), List.append_nil]; exact ih
    · rw [if_neg hg, if_neg hg, List.append_nil]; exact ih
theorem come_cases {dim m : Nat} {r : Int} {L : List (List Pk)} (hV : Valid dim r L) : ∀ i,
    comeL dim r L i m = [] ∨ ∃ n p q, n < i ∧ goesB dim r L n = true ∧ L[n]? = some (p :: q) ∧ tgt dim n p = (m : Int) ∧ comeL dim r L i m = [p]
  | 0 => .inl rfl
  | i + 1 => by
    unfold comeL
    by_cases hg : goesB dim r L i = true
    · obtain ⟨_, p, q, hp⟩ := goes_some hg
      rw [if_pos hg, hp]
      simp only
      by_cases ht : tgt dim i p = (m : Int)
      · rw [if_pos ht]
        right
        rcases come_cases (m := m) hV i with h | ⟨n, p', q', h1, h2, h3, h4, _⟩
        · exact ⟨i, p, q, by omega, hg, hp, ht, by rw [h]; rfl⟩
        · exact (goes_uniq hV hp h3 hg h1 ht h4 (by omega)).elim
      · rw [if_neg ht, List.append_nil]
        rcases come_cases (m := m) hV i with h | ⟨n, p', q', h1, h2, h3, h4, h5⟩
        · exact .inl h
        · exact .inr ⟨n, p', q', by omega, h2, h3, h4, h5⟩
    · rw [if_neg hg, List.append_nil]
      rcases come_cases (m := m) hV i with h | ⟨n, p', q', h1, h2, h3, h4, h5⟩
      · exact .inl h
      · exact .inr ⟨n, p', q', by omega, h2, h3, h4, h5⟩
/-- a buffer after a round -/
theorem round_at {dim m : Nat} {r : Int} {L : List (List Pk)} {l : List Pk} (hV : Valid dim r L) (hl : L[m]? = some l) (i : Nat) : (rdB dim r L i).1[m]? = some ((if goesB dim r L m = true then l.tail else l) ++ comeL dim r L i m) := by
  have h := rdA_at (dim := dim) (r := r) hl L.length
  have hlt := (List.getElem?_eq_some_iff.1 hl).1
  by_cases hg : goesB dim r L m = true
  · rw [if_pos ⟨hlt, hg⟩] at h
    rw [if_pos hg]; exact rdB_at hV h i
  · rw [if_neg (fun h => hg h.2)] at h
    rw [if_neg hg]; exact rdB_at hV h i
theorem round_valid {dim : Nat} {r : Int} {L : List (List Pk)} (hV : Valid dim r L) (i : Nat) : Valid dim r (rdB dim r L i).1 := by
  refine valid_of hV.hd hV.hr (by rw [rdB_len]; exact hV.len) (fun m l' hl' => ?_)
  have hlt : m < L.length := by have := (List.getElem?_eq_some_iff.1 hl').1; rwa [rdB_len] at this
  obtain ⟨l, hl⟩ : ∃ l, L[m]? = some l := ⟨_, List.getElem?_eq_getElem hlt⟩
  have h1 := round_at hV hl i
  rw [h1] at hl'
  obtain rfl := Option.some.inj hl'
  have hbuf := hV.buf hl
  have hr := hV.hr
  have ht : (if goesB dim r L m = true then l.tail else l).length ≤ l.length ∧ ∀ p ∈ (if goesB dim r L m = true then l.tail else l), p ∈ l := by
    split
    · exact ⟨by simp, fun p hp => List.mem_of_mem_tail hp⟩
    · exact ⟨Nat.le_refl _, fun _ hp => hp⟩
  rcases come_cases (m := m) hV i with h | ⟨n, p, q, g1, g2, g3, g4, g5⟩
  · rw [h, List.append_nil]
    exact ⟨by have := ht.1; omega, fun p hp => hbuf.2 p (ht.2 p hp)⟩
  · rw [g5]
    obtain ⟨hab, _⟩ := goes_some g2
    rcases tgt_info hV g3 with ⟨h, _⟩ | ⟨t, k, f1, f2, f3, f4, f5, f6, f7, f8⟩
    · omega
    obtain rfl : t = m := by omega
    have hroom : (l.length : Int) < r := by
      unfold ableB at hab
      rw [g3] at hab
      simp only [f1, Int.toNat_natCast, getD_of hl, Bool.or_eq_true, decide_eq_true_eq] at hab
      omega
    refine ⟨by rw [List.length_append, List.length_singleton]; have := ht.1; omega, fun x hx => ?_⟩
    rcases List.mem_append.1 hx with hx | hx
    · exact hbuf.2 x (ht.2 x hx)
    · rw [List.mem_singleton.1 hx]; exact f7
/-- how many go -/
def goN (dim : Nat) (r : Int) (L : List (List Pk)) : Nat → Nat
  | 0 => 0
  | i + 1 => goN dim r L i + if goesB dim r L i = true then 1 else 0
theorem goN_le (dim : Nat) (r : Int) (L : List (List Pk)) : ∀ i, goN dim r L i ≤ i
  | 0 => Nat.le_refl _
  | i + 1 => by have := goN_le dim r L i; unfold goN; split <;> omega
theorem goN_pos {dim n : Nat} {r : Int} {L : List (List Pk)} (h : goesB dim r L n = true) : ∀ {i}, n < i → 0 < goN dim r L i
  | 0, hi => by omega
  | i + 1, hi => by
    unfold goN
    by_cases he : n = i
    · subst he; rw [if_pos h]; omega
    · have := goN_pos h (i := i) (by omega); omega
def wA (dim : Nat) (r : Int) (L : List (List Pk)) : Nat → Nat
  | 0 => 0
  | i + 1 => wA dim r L i + if goesB dim r L i = true then match L[i]? with | some (p :: _) => wayN dim i p | _ => 0 else 0
theorem wA_left {dim : Nat} {r : Int} {L : List (List Pk)} : ∀ i, i ≤ L.length → leftN dim (rdA dim r L i) L.length + wA dim r L i = leftN dim L L.length
  | 0, _ => rfl
  | i + 1, hi => by
    have ih := wA_left (dim := dim) (r := r) (L := L) i (by omega)
    unfold rdA wA
    by_cases hg : goesB dim r L i = true
    · obtain ⟨_, p, q, hp⟩ := goes_some hg
      have h2 : (rdA dim r L i)[i]? = some (p :: q) := by rw [rdA_get dim r L i i (Nat.le_refl _)]; exact hp
      rw [if_pos hg, if_pos hg, hp, getD_of h2]
      have h1 := leftN_set (dim := dim) (n := i) (x := q) (i := L.length) (L := rdA dim r L i) (by omega) (by rw [rdA_len]; omega)
      rw [getD_of h2, leftB_cons] at h1
      simp only [List.tail_cons]
      omega
    · rw [if_neg hg, if_neg hg]; exact ih
theorem wB_left {dim : Nat} {r : Int} {L : List (List Pk)} (hV : Valid dim r L) : ∀ i, i ≤ L.length → leftN dim (rdB dim r L i).1 L.length + goN dim r L i = leftN dim (rdA dim r L L.length) L.length + wA dim r L i
  | 0, _ => rfl
  | i + 1, hi => by
    have ih := wB_left hV i (by omega)
    unfold rdB wA goN
    by_cases hg : goesB dim r L i = true
    · obtain ⟨_, p, q, hp⟩ := goes_some hg
      rw [if_pos hg, if_pos hg, if_pos hg, hp]
      simp only
      rcases tgt_info hV hp with ⟨h, hw⟩ | ⟨t, k, f1, f2, f3, f4, f5, f6, f7, f8⟩
      · rw [if_pos h]; simp only; omega
      · rw [f1, if_neg (by omega), Int.toNat_natCast]
        simp only
        obtain ⟨l, hl⟩ : ∃ l, (rdB dim r L i).1[t]? = some l := ⟨_, List.getElem?_eq_getElem (by rw [rdB_len]; exact f2)⟩
        have h1 := leftN_set (dim := dim) (n := t) (x := l ++ [p]) (i := L.length) (L := (rdB dim r L i).1) f2 (by rw [rdB_len]; exact f2)
        rw [getD_of hl, leftB_snoc] at h1
        rw [getD_of hl]
        omega
    · rw [if_neg hg, if_neg hg, if_neg hg]; exact ih
theorem round_left {dim : Nat} {r : Int} {L : List (List Pk)} (hV : Valid dim r L) : leftN dim (rdB dim r L L.length).1 L.length + goN dim r L L.length = leftN dim L L.length := by
  have h1 := wB_left hV L.length (Nat.le_refl _)
  have h2 := wA_left (dim := dim) (r := r) (L := L) L.length (Nat.le_refl _)
  omega
theorem hop_rank0 : ∀ a : Fin 8, ∀ b : Fin 8, ∀ s : Fin 8, ∀ k : Fin 3, hop (wayL a b) s (overN s k) = true → (0 : Int) ≤ bitN s b → (k.val : Int) < bitN s b := by decide +kernel
theorem able_goes {dim : Nat} {r : Int} {L : List (List Pk)} : ∀ n, n < L.length → ableB dim r L n = true → ∃ j, j < L.length ∧ goesB dim r L j = true := by
  intro n
  induction n using Nat.strongRecOn with
  | _ n ih =>
    intro hlt hab
    by_cases hg : goesB dim r L n = true
    · exact ⟨n, hlt, hg⟩
    have hall : ¬ ((List.range n).all fun j => decide (j < n - n % (dim + 1)) || !clashB dim L n j) = true := fun h => hg (by unfold goesB; rw [hab, h]; rfl)
    rw [List.all_eq_true] at hall
    obtain ⟨j, hj⟩ := Classical.not_forall.1 hall
    obtain ⟨hj, hc⟩ := Classical.not_imp.1 hj
    have hj := List.mem_range.1 hj
    rw [Bool.or_eq_true, Bool.not_eq_true'] at hc
    have hc : clashB dim L n j = true := by
      cases h : clashB dim L n j with
      | true => rfl
      | false => exact absurd (.inr h) hc
    refine ih j hj (by omega) ?_
    unfold clashB at hc
    unfold ableB at hab ⊢
    cases hL : L[j]? with
    | none => rw [hL] at hc; simp at hc
    | some l =>
      cases l with
      | nil => rw [hL] at hc; simp at hc
      | cons x y =>
        cases hN : L[n]? with
        | none => rw [hL, hN] at hc; simp at hc
        | some l' =>
          cases l' with
          | nil => rw [hL, hN] at hc; simp at hc
          | cons p q =>
            rw [hL, hN] at hc
            simp only [Bool.and_eq_true, decide_eq_true_eq] at hc
            rw [hN] at hab
            simp only [hc.2]; exact hab
def rank (dim n : Nat) : Nat := if n % (dim + 1) = dim then 0 else n % (dim + 1) + 1
/-- the furthest of the buffers that hold a packet -/
theorem top_some {dim : Nat} {L : List (List Pk)} : ∀ i, (∃ n, n < i ∧ L.getD n [] ≠ []) → ∃ n, n < i ∧ L.getD n [] ≠ [] ∧ ∀ m, m < i → L.getD m [] ≠ [] → rank dim m ≤ rank dim n
  | 0, ⟨n, h, _⟩ => by omega
  | i + 1, ⟨n, hn, he⟩ => by
    by_cases hx : ∃ n, n < i ∧ L.getD n [] ≠ []
    · obtain ⟨n, h1, h2, h3⟩ := top_some (dim := dim) i hx
      by_cases hi : L.getD i [] ≠ [] ∧ rank dim n < rank dim i
      · refine ⟨i, by omega, hi.1, fun m hm hme => ?_⟩
        rcases Nat.lt_or_ge m i with h | h
        · have := h3 m h hme; omega
        · obtain rfl : m = i := by omega
          exact Nat.le_refl _
      · refine ⟨n, by omega, h2, fun m hm hme => ?_⟩
        rcases Nat.lt_or_ge m i with h | h
        · exact h3 m h hme
        · obtain rfl : m = i := by omega
          have : ¬ rank dim n < rank dim m := fun h => hi ⟨hme, h⟩
          omega
    · have hni : n = i := by
        rcases Nat.lt_or_ge n i with h | h
        · exact absurd ⟨n, h, he⟩ hx
        · omega
      subst hni
      refine ⟨n, hn, he, fun m hm hme => ?_⟩
      rcases Nat.lt_or_ge m n with h | h
      · exact absurd ⟨m, h, hme⟩ hx
      · obtain rfl : m = n := by omega
        exact Nat.le_refl _
theorem many_some {L : List (List Pk)} (h : 0 < manyN L) : ∃ n, n < L.length ∧ L.getD n [] ≠ [] := by
  unfold manyN at h
  induction L with
  | nil => simp at h
  | cons l L ih =>
    cases l with
    | nil =>
      obtain ⟨n, h1, h2⟩ := ih (by simpa using h)
      exact ⟨n + 1, by simp; omega, by simpa using h2⟩
    | cons p q => exact ⟨0, by simp, by simp⟩
/-- a cube is never stuck -/
theorem never_stuck {dim : Nat} {r : Int} {L : List (List Pk)} (hV : Valid dim r L) (h : 0 < manyN L) : ∃ n, n < L.length ∧ ableB dim r L n = true := by
  obtain ⟨n, hn, hne, hmax⟩ := top_some (dim := dim) L.length (many_some h)
  refine ⟨n, hn, ?_⟩
  obtain ⟨l, hl⟩ : ∃ l, L[n]? = some l := ⟨_, List.getElem?_eq_getElem hn⟩
  rw [getD_of hl] at hne
  cases l with
  | nil => exact absurd rfl hne
  | cons p q =>
    unfold ableB
    rw [hl]
    simp only
    rcases tgt_info hV hl with ⟨h, _⟩ | ⟨m, k, f1, f2, f3, f4, f5, f6, f7, f8⟩
    · rw [decide_eq_true h]; rfl
    · rw [f1, Int.toNat_natCast]
      obtain ⟨hn1, hn2, hn3, hn4⟩ := hV.at hl
      have hd := hV.hd
      have hr := hV.hr
      obtain ⟨d1, d2⟩ := div_at (d := dim) (m := overN (n / (dim + 1)) k) (k := k) (by omega)
      rw [← f4] at d1 d2
      have hrank : rank dim n < rank dim m := by
        have hm : rank dim m = k + 1 := by unfold rank; rw [d2, if_neg (by omega)]
        rw [hm]
        unfold rank
        split
        · omega
        · rename_i hp
          have hcan := (hV.buf hl).2 p (List.mem_cons_self ..)
          obtain ⟨a, b, hpe, ha, hb⟩ := can_in hcan
          have h28 := pow2_le dim (Nat.le_refl _) hd
          rw [hpe, can_way ha hb (by omega)] at hcan
          rw [hpe] at f5
          simp only [Int.toNat_natCast] at f5
          have := hop_rank0 ⟨a, by omega⟩ ⟨b, by omega⟩ ⟨n / (dim + 1), hn3⟩ ⟨n % (dim + 1), by omega⟩ hcan (by show (0 : Int) ≤ bitN (n / (dim + 1)) b; omega)
          simp only [f5] at this
          omega
      have hemp : L.getD m [] = [] := by
        cases hg : L.getD m [] with
        | nil => rfl
        | cons x y =>
          have := hmax m f2 (by rw [hg]; simp)
          omega
      rw [hemp]
      simp; omega
theorem round_go {dim : Nat} {r : Int} {L : List (List Pk)} (hV : Valid dim r L) (h : 0 < manyN L) : 0 < goN dim r L L.length := by
  obtain ⟨n, hn, hab⟩ := never_stuck hV h
  obtain ⟨j, hj, hg⟩ := able_goes n hn hab
  exact goN_pos hg hj
/-- rounds -/
def rdsF (dim : Nat) (r : Int) : Nat → List (List Pk) → Nat → List Pk → List Pk × Nat
  | 0, _, m, o => (o, m)
  | f + 1, L, m, o => if manyN L = 0 then (o, m) else rdsF dim r f (rdB dim r L L.length).1 (m + 1) (o ++ (rdB dim r L L.length).2)
theorem left_many {dim : Nat} {L : List (List Pk)} (h : leftN dim L L.length = 0) : manyN L = 0 := by
  rcases Nat.eq_zero_or_pos (manyN L) with h1 | h1
  · exact h1
  · obtain ⟨n, hn, hne⟩ := many_some h1
    exfalso
    have key : ∀ i, n < i → 0 < leftN dim L i := fun i => by
      induction i with
      | zero => omega
      | succ i ih =>
        intro hi
        have e : leftN dim L (i + 1) = leftN dim L i + leftB dim i (L.getD i []) := by unfold leftN; rw [List.range_succ]; simp
        rw [e]
        rcases Nat.lt_or_ge n i with h2 | h2
        · have := ih h2; omega
        · obtain rfl : n = i := by omega
          cases hg : L.getD n [] with
          | nil => exact absurd hg hne
          | cons p q => rw [leftB_cons, show wayN dim n p = cnt (n / (dim + 1)) p.2.1.toNat + 1 from way_size _ _]; omega
    have := key _ hn
    omega
theorem rds_fuel {dim : Nat} {r : Int} : ∀ (f g : Nat) (L : List (List Pk)) (m : Nat) (o : List Pk), Valid dim r L → leftN dim L L.length ≤ f → leftN dim L L.length ≤ g → rdsF dim r f L m o = rdsF dim r g L m o
  | 0, g, L, m, o, hV, h1, h2 => by
    have h3 := left_many (dim := dim) (L := L) (by omega)
    cases g with
    | zero => rfl
    | succ g => unfold rdsF; rw [if_pos h3]
  | f + 1, 0, L, m, o, hV, h1, h2 => by
    have h3 := left_many (dim := dim) (L := L) (by omega)
    unfold rdsF; rw [if_pos h3]
  | f + 1, g + 1, L, m, o, hV, h1, h2 => by
    unfold rdsF
    by_cases h3 : manyN L = 0
    · rw [if_pos h3, if_pos h3]
    · rw [if_neg h3, if_neg h3]
      have h4 := round_left hV
      have h5 := round_go hV (by omega)
      exact rds_fuel f g _ _ _ (round_valid hV _) (by rw [rdB_len]; omega) (by rw [rdB_len]; omega)
theorem rds_step {dim m : Nat} {r : Int} {L : List (List Pk)} {o : List Pk} {R : List Pk × Nat} (hV : Valid dim r L) (hm : manyN L ≠ 0) (h : rdsF dim r (leftN dim L L.length) L m o = R) :
    rdsF dim r (leftN dim (rdB dim r L L.length).1 (rdB dim r L L.length).1.length) (rdB dim r L L.length).1 (m + 1) (o ++ (rdB dim r L L.length).2) = R := by
  have h4 := round_left hV
  have h5 := round_go hV (by omega)
  rw [← h]
  cases he : leftN dim L L.length with
  | zero => exact absurd (left_many he) hm
  | succ f =>
    conv => rhs; unfold rdsF
    rw [if_neg hm]
    exact rds_fuel _ _ _ _ _ (round_valid hV _) (Nat.le_refl _) (by rw [rdB_len]; omega)
theorem rds_end {dim m : Nat} {r : Int} {L : List (List Pk)} {o : List Pk} {R : List Pk × Nat} (hm : manyN L = 0) (h : rdsF dim r (leftN dim L L.length) L m o = R) : R = (o, m) := by
  rw [← h]
  cases leftN dim L L.length with
  | zero => rfl
  | succ f => unfold rdsF; rw [if_pos hm]
def rdsR (d r : Int) (L : List (List Pk)) : List Pk × Nat := if chkE d r L = 0 then rdsF d.toNat r (leftN d.toNat L L.length) L 0 [] else ([], 0)
def RoundsQ (lo : Nat) (d r : Int) (L : List (List Pk)) (v : Value) (w : World) : Prop :=
  ∃ o, v = .tuple #[o, .int .i64 ((rdsR d r L).2 : Nat), .int .i64 (chkE d r L)] ∧ PkR lo w o (rdsR d r L).1
theorem rounds_bad {lo : Nat} {w : World} {d r : Int} {L : List (List Pk)} (h : chkE d r L ≠ 0) : RoundsQ lo d r L (.tuple #[.slice none 0 0, .int .i64 0, .int .i64 (chkE d r L)]) w := by
  have e : rdsR d r L = ([], 0) := by unfold rdsR; rw [if_neg h]
  exact ⟨_, by rw [e]; rfl, by rw [e]; exact PkR.nil _ _⟩
theorem rounds_ok {lo dim m : Nat} {w : World} {r : Int} {L L2 : List (List Pk)} {o : List Pk} {s : Option Addr} {n c : Nat} (hV : Valid dim r L) (hr : rdsF dim r (leftN dim L2 L2.length) L2 m o = rdsF dim r (leftN dim L L.length) L 0 [])
    (hne : manyN L2 = 0) (ho : OwnS w 41 3 s n c (o.flatMap pkC)) (hn : n = o.length) (hg : ∀ k, ob s k → lo ≤ k) : RoundsQ lo dim r L (.tuple #[.slice s n c, .int .i64 m, .int .i64 0]) w := by
  have h1 := rds_end hne hr
  have h2 : rdsR dim r L = (o, m) := by unfold rdsR; rw [if_pos hV.chk, Int.toNat_natCast, h1]
  exact ⟨_, by rw [h2, hV.chk], by rw [h2]; exact own_pk ho hn hg⟩
theorem roundV {P : Program} {f : FuncId} {args : List Value} {S : Nat → Prop} {w : World} {lo dim : Nat} {r : Int} {L : List (List Pk)} (hV : Valid dim r L) (h : CT P f args w S (RoundQ lo dim r L)) :
    CT P f args w S (fun v w' => ∃ s c so co, v = .tuple #[.agg #[.int .i64 dim, .int .i64 r, .slice s (rdB dim r L L.length).1.length c], .slice so (rdB dim r L L.length).2.length co, .int .i64 0] ∧
      BufS (Iv lo w'.heap.size) w' s (rdB dim r L L.length).1 ∧ PkS (Iv lo w'.heap.size) w' so (rdB dim r L L.length).2) :=
  h.mono (fun _ _ h => h) fun v w' _ ⟨u, o, h1, h2, h3⟩ => by
    have e1 : rndC (dim : Int) r L = ((dim : Int), r, (rdB dim r L L.length).1) := by unfold rndC; rw [if_pos hV.chk, Int.toNat_natCast]
    have e2 : rndO (dim : Int) r L = (rdB dim r L L.length).2 := by unfold rndO; rw [if_pos hV.chk, Int.toNat_natCast]
    rw [e1] at h2
    rw [e2] at h3
    rw [hV.chk] at h1
    obtain ⟨s, c, rfl, h2⟩ := h2
    obtain ⟨so, co, rfl, h3⟩ := h3
    exact ⟨s, c, so, co, h1, h2, h3⟩

/-- The program's side. Whether numbers lie between two others. -/
def inB (a b : Int) (l : List Int) : Bool := l.all fun z => decide (a ≤ z ∧ z ≤ b)
def outB (a b : Int) (z : Int) : Bool := decide (z < a) || decide (b < z)
theorem out_t {a b z : Int} (h : z < a) : Value.bool true = .bool (outB a b z) := by unfold outB; rw [decide_eq_true h]; rfl
theorem out_f {a b z : Int} (h : ¬ z < a) : Value.bool (decide (b < z)) = .bool (outB a b z) := by unfold outB; rw [decide_eq_false h]; rfl
theorem in_out (a b : Int) (l : List Int) : Value.bool (!(l.any (outB a b))) = .bool (inB a b l) := by
  congr 1
  unfold inB
  rw [List.not_any_eq_all_not]
  congr 1
  funext z
  unfold outB
  by_cases h1 : z < a
  · simp only [h1, decide_true, Bool.true_or, Bool.not_true]; exact (decide_eq_false (by omega)).symm
  · by_cases h2 : b < z
    · simp only [h1, h2, decide_true, decide_false, Bool.false_or, Bool.not_true]; exact (decide_eq_false (by omega)).symm
    · simp only [h1, h2, decide_false, Bool.false_or, Bool.not_false]; exact (decide_eq_true (by omega)).symm
theorem any_step {α : Type} {q : α → Bool} {l : List α} {i : Nat} {x : α} (h : (l.take i).any q = false) (hx : l[i]? = some x) (hq : q x = false) : (l.take (i + 1)).any q = false := by
  rw [List.take_add_one, List.any_append, h, hx]; simp [hq]
theorem idx_some {α : Type} {q : α → Bool} {l : List α} {i : Nat} {x : α} (hx : l[i]? = some x) (hq : q x = true) : ∃ z : Int, Value.int .i64 (i : Int) = .int .i64 z ∧ decide (0 ≤ z) = l.any q := by
  refine ⟨i, rfl, ?_⟩
  rw [decide_eq_true (by omega)]
  exact (List.any_eq_true.2 ⟨x, List.mem_of_getElem? hx, hq⟩).symm
theorem idx_none {α : Type} {q : α → Bool} {l : List α} {i : Nat} (h : (l.take i).any q = false) (hi : ¬ (i : Int) < (l.length : Int)) : ∃ z : Int, Value.int .i64 (-1) = .int .i64 z ∧ decide (0 ≤ z) = l.any q := by
  refine ⟨-1, rfl, ?_⟩
  rw [List.take_of_length_le (by omega)] at h
  rw [h]; rfl
theorem blk_ints {w : World} {b : Nat} {T : TypeId} (l : List Int) (h : Blk w b (l.map fun z => .int .i64 z) T) : IntS (fun _ => True) w (some ⟨b, 0, none⟩) l := fun i x hi => by
  refine ⟨b, 0, rfl, trivial, fun j v hj => ?_⟩
  cases j with
  | zero =>
    refine h.cell _ ?_
    simp only [intC, List.getElem?_cons_zero, Option.some.injEq] at hj
    subst hj
    rw [Nat.zero_add, Nat.mul_one, Nat.add_zero, List.getElem?_map, hi]; rfl
  | succ j => simp [intC] at hj
/-- the table of the trailing zeros -/
def tab64 : List Int := [0, 1, 56, 2, 57, 49, 28, 3, 61, 58, 42, 50, 38, 29, 17, 4, 62, 47, 59, 36, 45, 43, 51, 22, 53, 39, 33, 30, 24, 18, 12, 5, 63, 55, 48, 27, 60, 41, 37, 16, 46, 35, 44, 21, 52, 32, 23, 11, 54, 26, 40, 15, 34, 20, 31, 10, 25, 14, 19, 9, 13, 8, 7, 6]
def Tb (w : World) (b : Nat) : Prop := ∀ (i : Nat) (z : Int), tab64[i]? = some z → w.cell? ⟨b, i, none⟩ = some (.int .u8 z)
theorem Tb.lt {w : World} {b : Nat} (h : Tb w b) : b < w.heap.size := World.block_lt_of_cell? w ⟨b, 0, none⟩ (h 0 0 rfl)
theorem Tb.fr {w w' : World} {b : Nat} {S : Nat → Prop} (h : Tb w b) (k : Fr S w w') (hs : ¬ S b) : Tb w' b := fun i z hz => k.cell (p := ⟨b, i, none⟩) hs (h i z hz)
theorem Tb.ext {w w' : World} {b : Nat} (h : Tb w b) (k : Ext w w') : Tb w' b := h.fr k (fun hn => hn)
theorem Tb.ne {w w' : World} {b c : Nat} (h : Tb w b) (k : Fr (· = c) w w') (hn : b ≠ c) : Tb w' b := h.fr k hn
def tzN (x : Nat) : Nat := if x % 2 = 1 then 0 else if x / 2 % 2 = 1 then 1 else 2
theorem lt8 {x : Nat} (h : x < 8) : x = 0 ∨ x = 1 ∨ x = 2 ∨ x = 3 ∨ x = 4 ∨ x = 5 ∨ x = 6 ∨ x = 7 := by omega
theorem tz_idx (x : Nat) (h0 : 0 < x) (h8 : x < 8) : ∃ k : Nat, (IntKind.u64.wrap (bandI .u64 (x : Int) (IntKind.u64.wrap (0 - (x : Int))) * 285870213051353865)).fdiv (2 ^ min (58 : Int).toNat IntKind.u64.bits) = (k : Int) ∧ k < 64 ∧ tab64[k]? = some ((tzN x : Nat) : Int) := by
  rcases lt8 h8 with rfl | rfl | rfl | rfl | rfl | rfl | rfl | rfl
  · omega
  all_goals first | exact ⟨1, by decide +kernel, by decide, by decide +kernel⟩ | exact ⟨0, by decide +kernel, by decide, by decide +kernel⟩ | exact ⟨2, by decide +kernel, by decide, by decide +kernel⟩ | exact ⟨4, by decide +kernel, by decide, by decide +kernel⟩ | exact ⟨3, by decide +kernel, by decide, by decide +kernel⟩
theorem tz_out {x : Nat} : IntKind.i64.wrap ((tzN x : Nat) : Int) = ((tzN x : Nat) : Int) := wrap64_nat (by unfold tzN; (repeat' split) <;> omega)
/-- how many bits are set -/
def popN (x : Nat) : Nat := x % 2 + x / 2 % 2 + x / 4 % 2
/-- where a packet goes from a switch -/
def nxt (s b : Nat) : Nat × Nat := if s = b then (0, 0) else (overN s (bitN s b).toNat, (bitN s b).toNat)
theorem nxt0 : ∀ s : Fin 8, ∀ b : Fin 8, s.val ≠ b.val → 0 < s.val ^^^ b.val ∧ s.val ^^^ b.val < 8 ∧ tzN (s.val ^^^ b.val) = (bitN s b).toNat ∧ s.val ^^^ (1 * 2 ^ tzN (s.val ^^^ b.val)) = overN s (bitN s b).toNat ∧ (0 : Int) ≤ bitN s b := by decide +kernel
theorem nxt_of {s b : Nat} (hs : s < 8) (hb : b < 8) (h : ¬ s = b) : 0 < s ^^^ b ∧ s ^^^ b < 8 ∧ tzN (s ^^^ b) = (nxt s b).2 ∧ s ^^^ (1 * 2 ^ tzN (s ^^^ b)) = (nxt s b).1 := by
  obtain ⟨h1, h2, h3, h4, _⟩ := nxt0 ⟨s, hs⟩ ⟨b, hb⟩ h
  unfold nxt; rw [if_neg h]; exact ⟨h1, h2, h3, h4⟩
theorem tzN_le (x : Nat) : tzN x ≤ 2 := by unfold tzN; (repeat' split) <;> omega
theorem nxt_end {s b : Nat} (h : (s : Int) = (b : Int)) : Value.tuple #[.agg #[.int .i64 0, .int .i64 0], .bool false] = .tuple #[.agg #[.int .i64 ((nxt s b).1 : Nat), .int .i64 ((nxt s b).2 : Nat)], .bool (decide (s ≠ b))] := by
  have h : s = b := by omega
  unfold nxt; rw [if_pos h, decide_eq_false (by omega)]; rfl
theorem nxt_on {s b : Nat} (hs : s < 8) (hb : b < 8) (h : ¬ s = b) :
    Value.tuple #[.agg #[.int .i64 ((s ^^^ (1 * 2 ^ tzN (s ^^^ b)) : Nat) : Int), .int .i64 ((tzN (s ^^^ b) : Nat) : Int)], .bool true] = .tuple #[.agg #[.int .i64 ((nxt s b).1 : Nat), .int .i64 ((nxt s b).2 : Nat)], .bool (decide (s ≠ b))] := by
  obtain ⟨h1, h2, h3, h4⟩ := nxt_of hs hb h
  rw [h3, ← h3, h4, h3, decide_eq_true h]

theorem clone_nil {w : World} {F : Nat → Prop} {s : Option Addr} {l : List Pk} (hl : PkS F w s l) (h : s.isNone = true) : l = [] := by
  cases l with
  | nil => rfl
  | cons x y =>
    obtain ⟨b, o, h1, _⟩ := hl 0 x rfl
    rw [h1] at h; cases h
/-- the buffers through which a packet comes -/
def spotsF : Nat → Nat → Nat → Nat → List (Nat × Nat)
  | 0, s, k, _ => [(s, k)]
  | f + 1, s, k, b => (s, k) :: spotsF f (nxt s b).1 (nxt s b).2 b
def spotsL (a b dim : Nat) : List (Nat × Nat) := spotsF (cnt a b) a dim b
theorem spotsF_head (f s k b : Nat) : (spotsF f s k b)[0]? = some (s, k) := by cases f <;> rfl
theorem sp_at {L : List (Nat × Nat)} {i f s k b : Nat} (h : L.drop i = spotsF f s k b) : L[i]? = some (s, k) := by
  have := spotsF_head f s k b
  rw [← h, List.getElem?_drop, Nat.add_zero] at this; exact this
theorem nxt_cnt {s b : Nat} (hs : s < 8) (hb : b < 8) (h : ¬ s = b) : (nxt s b).1 < 8 ∧ (nxt s b).2 < 3 ∧ cnt (nxt s b).1 b + 1 = cnt s b := by
  obtain ⟨h1, h2, h3, h4, h5⟩ := nxt0 ⟨s, hs⟩ ⟨b, hb⟩ h
  obtain ⟨k, hk, hk3⟩ := bit_nat h5
  unfold nxt
  rw [if_neg h]
  simp only at hk
  simp only [hk, Int.toNat_natCast]
  exact ⟨over_lt hs hk3, hk3, cnt_step hs hb hk⟩
theorem cnt_same0 : ∀ s : Fin 8, ∀ b : Fin 8, cnt s b = 0 ↔ s.val = b.val := by decide +kernel
theorem cnt_same {s b : Nat} (hs : s < 8) (hb : b < 8) : cnt s b = 0 ↔ s = b := cnt_same0 ⟨s, hs⟩ ⟨b, hb⟩
theorem sp_step {L : List (Nat × Nat)} {i s k b : Nat} (hs : s < 8) (hb : b < 8) (h : L.drop i = spotsF (cnt s b) s k b) :
    if decide (s ≠ b) = true then L.drop (i + 1) = spotsF (cnt (nxt s b).1 b) (nxt s b).1 (nxt s b).2 b else i + 1 = L.length := by
  by_cases he : s = b
  · rw [if_neg (by simp [he])]
    have h0 := (cnt_same hs hb).2 he
    rw [h0] at h
    have h1 := congrArg List.length h
    simp [spotsF] at h1
    omega
  · rw [if_pos (by simp [he])]
    obtain ⟨_, _, h1⟩ := nxt_cnt hs hb he
    rw [← h1] at h
    have h2 := congrArg List.tail h
    rw [List.tail_drop] at h2
    exact h2
theorem sp_lt {L : List (Nat × Nat)} {i : Nat} {x : Nat × Nat} (h : L[i]? = some x) : i < L.length := (List.getElem?_eq_some_iff.1 h).1
theorem nxt_lt {s b : Nat} (hs : s < 8) (hb : b < 8) : (nxt s b).1 < 8 := by
  by_cases h : s = b
  · unfold nxt; rw [if_pos h]; omega
  · exact (nxt_cnt hs hb h).1

theorem any_end {α : Type} {q : α → Bool} {l : List α} (h : (l.take l.length).any q = false) : l.any q = false := by rwa [List.take_length] at h
def isSp (x y : Nat) (q : Nat × Nat) : Bool := decide (q = (x, y))
theorem sp_no {x y s k : Nat} (h : ¬ (((s : Nat) : Int) = (x : Int) ∧ ((k : Nat) : Int) = (y : Int))) : isSp x y (s, k) = false := by
  unfold isSp
  refine decide_eq_false (fun e => h ?_)
  injection e with e1 e2
  subst e1; subst e2; exact ⟨rfl, rfl⟩
theorem sp_yes {x y s k i : Nat} {L : List (Nat × Nat)} (hi : L[i]? = some (s, k)) (h : ((s : Nat) : Int) = (x : Int) ∧ ((k : Nat) : Int) = (y : Int)) : L.any (isSp x y) = true := by
  obtain ⟨h1, h2⟩ := h
  obtain rfl : s = x := by omega
  obtain rfl : k = y := by omega
  exact List.any_eq_true.2 ⟨_, List.mem_of_getElem? hi, by unfold isSp; exact decide_eq_true rfl⟩
theorem comes0 : ∀ d : Fin 4, ∀ a : Fin 8, ∀ b : Fin 8, a.val < 2 ^ d.val → b.val < 2 ^ d.val → ∀ s : Fin 8, ∀ k : Fin 4, s.val < 2 ^ d.val → k.val ≤ d.val →
    (spotsL a b d).any (isSp s k) = (if k.val = d.val then decide ((a.val : Int) = (s.val : Int)) else hop (wayL a b) s (overN s k)) := by decide +kernel
theorem comes_can {dim a b s k : Nat} {z : Int} (hd : dim ≤ 3) (ha : a < 2 ^ dim) (hb : b < 2 ^ dim) (hs : s < 2 ^ dim) (hk : k ≤ dim) : (spotsL a b dim).any (isSp s k) = canB dim ((a : Int), (b : Int), z) s k := by
  have h8 := pow2_le dim (Nat.le_refl _) hd
  have h := comes0 ⟨dim, by omega⟩ ⟨a, by omega⟩ ⟨b, by omega⟩ ha hb ⟨s, by omega⟩ ⟨k, by omega⟩ hs hk
  simp only at h
  have hc : canB dim ((a : Int), (b : Int), z) s k = (if k = dim then decide ((a : Int) = (s : Int)) else hop (wayL a b) s (overN s k)) := by
    unfold canB
    rw [if_neg (by simp only; omega)]
    simp only [Int.toNat_natCast]
  rw [h, hc]

theorem in_sw {m : Nat} {p1 p2 : Int} (h : inB 0 ((2 ^ m - 1 : Nat) : Int) [p1, p2] = true) : ∃ a b : Nat, p1 = (a : Int) ∧ p2 = (b : Int) ∧ a < 2 ^ m ∧ b < 2 ^ m := by
  have hp := Nat.one_le_two_pow (n := m)
  unfold inB at h
  simp only [List.all_cons, List.all_nil, Bool.and_true, Bool.and_eq_true, decide_eq_true_eq] at h
  exact ⟨p1.toNat, p2.toNat, by omega, by omega, by omega, by omega⟩
theorem not_sw {m : Nat} {p1 p2 : Int} (h : inB 0 ((2 ^ m - 1 : Nat) : Int) [p1, p2] = false) : p1 < 0 ∨ ((2 ^ m : Nat) : Int) ≤ p1 ∨ p2 < 0 ∨ ((2 ^ m : Nat) : Int) ≤ p2 := by
  have hp := Nat.one_le_two_pow (n := m)
  unfold inB at h
  simp only [List.all_cons, List.all_nil, Bool.and_true] at h
  by_cases h1 : 0 ≤ p1 ∧ p1 ≤ ((2 ^ m - 1 : Nat) : Int)
  · rw [decide_eq_true h1, Bool.true_and] at h
    have h := of_decide_eq_false h; omega
  · omega
theorem in_one {a b z : Int} (h : inB a b [z] = true) : a ≤ z ∧ z ≤ b := by
  unfold inB at h
  simpa using h
theorem not_one {a b z : Int} (h : inB a b [z] = false) : z < a ∨ b < z := by
  unfold inB at h
  simp only [List.all_cons, List.all_nil, Bool.and_true] at h
  have h := of_decide_eq_false h; omega
theorem odd_out {dim x y : Nat} {p1 p2 p3 : Int} (h : inB 0 ((2 ^ dim - 1 : Nat) : Int) [p1, p2] = false) : Value.bool true = .bool (!(canB dim (p1, p2, p3) x y)) := by
  have h1 := not_sw h
  unfold canB; rw [if_pos (by simp only; omega)]; rfl
theorem odd_in {dim a b x y : Nat} {p3 : Int} (hd : dim ≤ 3) (ha : a < 2 ^ dim) (hb : b < 2 ^ dim) (hx : x < 2 ^ dim) (hy : y ≤ dim) : Value.bool (!((spotsL ((a : Nat) : Int).toNat ((b : Nat) : Int).toNat dim).any (isSp x y))) = .bool (!(canB dim ((a : Int), (b : Int), p3) x y)) := by
  rw [Int.toNat_natCast, Int.toNat_natCast, comes_can hd ha hb hx hy]
/-- a cube at work: the block of the cube itself, and its buffers -/
structure CubeP (w : World) (b : Nat) (d r : Int) (s : Option Addr) (c : Nat) (T : List (TE Pk)) : Prop where
  blk : Blk w b [.int .i64 d, .int .i64 r, .slice s T.length c] 76
  tab : Tab w 49 41 3 pkC s c T
  ne : ∀ k, tb s T k → k ≠ b
def OpenQ (lo : Nat) (d r : Int) (L : List (List Pk)) (v : Value) (w : World) : Prop :=
  (chkE d r L ≠ 0 ∧ v = .tuple #[.pointer none, .int .i64 (chkE d r L)]) ∨
  (chkE d r L = 0 ∧ ∃ b s c T, v = .tuple #[.pointer (some ⟨b, 0, none⟩), .int .i64 0] ∧ CubeP w b d r s c T ∧ T.map (·.2.2) = L ∧ lo ≤ b ∧ ∀ k, tb s T k → lo ≤ k)
theorem open_range {lo : Nat} {d r : Int} {L : List (List Pk)} {w : World} (h : d < 0 ∨ 3 < d ∨ r < 1 ∨ 8 < r) : OpenQ lo d r L (.tuple #[.pointer none, .int .i64 3]) w := by
  have e : chkE d r L = 3 := by unfold chkE; rw [if_pos h]
  exact .inl ⟨by rw [e]; decide, by rw [e]⟩
theorem open_form {lo dim : Nat} {r : Int} {L : List (List Pk)} {w : World} (hd : dim ≤ 3) (hr : 1 ≤ r ∧ r ≤ 8) (h : formB dim r L = false) : OpenQ lo dim r L (.tuple #[.pointer none, .int .i64 4]) w := by
  have e : chkE dim r L = 4 := by
    unfold chkE; rw [if_neg (by omega), Int.toNat_natCast, h]; rfl
  exact .inl ⟨by rw [e]; decide, by rw [e]⟩
theorem upto_end {dim : Nat} {r : Int} {L : List (List Pk)} {n : Nat} (hd : dim ≤ 3) (hr : 1 ≤ r ∧ r ≤ 8) (hl : L.length = 2 ^ dim * (dim + 1)) (hn : L.length ≤ n) (h : upto dim r L n) : Valid dim r L := by
  refine ⟨hd, hr, ?_⟩
  unfold formB
  rw [decide_eq_true hl, Bool.true_and, List.all_eq_true]
  exact fun m hm => h m (by have := List.mem_range.1 hm; omega)
theorem open_ok {lo dim b c : Nat} {r : Int} {s : Option Addr} {L : List (List Pk)} {T : List (TE Pk)} {w : World} (hV : Valid dim r L) (hB : Blk w b [.int .i64 dim, .int .i64 r, .slice s T.length c] 76) (hT : Tab w 49 41 3 pkC s c T) (hn : ∀ k, tb s T k → k ≠ b) (hm : T.map (·.2.2) = L) (hb : lo ≤ b) (hg : ∀ k, tb s T k → lo ≤ k) :
    OpenQ lo dim r L (.tuple #[.pointer (some ⟨b, 0, none⟩), .int .i64 0]) w := .inr ⟨hV.chk, b, s, c, T, rfl, ⟨hB, hT, hn⟩, hm, hb, hg⟩
theorem buf_odd {dim n : Nat} {r : Int} {l : List Pk} (h : ¬ r < (l.length : Int)) (ha : (l.any fun p => !(canB dim p (n / (dim + 1)) (n % (dim + 1)))) = false) : bufOk dim r n l = true := by
  unfold bufOk
  rw [decide_eq_true (by omega), Bool.true_and, List.all_eq_true]
  intro p hp
  rw [List.any_eq_false] at ha
  have := ha p hp
  simpa using this
theorem buf_odd_t {dim n : Nat} {r : Int} {L : List (List Pk)} {l : List Pk} (hl : L[n]? = some l) (ha : (l.any fun p => !(canB dim p (n / (dim + 1)) (n % (dim + 1)))) = true) : formB dim r L = false := by
  rw [List.any_eq_true] at ha
  obtain ⟨p, hp, h⟩ := ha
  obtain ⟨k, hk⟩ := List.getElem?_of_mem hp
  exact form_buf hl (buf_pk hk (by simpa using h))

theorem tgt_nxt {dim x y b : Nat} {a z : Int} (hy : y ≤ dim) (hx8 : x < 8) (hb8 : b < 8) :
    (x = b → tgt dim (x * (dim + 1) + y) (a, (b : Int), z) < 0) ∧ (¬ x = b → tgt dim (x * (dim + 1) + y) (a, (b : Int), z) = (((nxt x b).1 * (dim + 1) + (nxt x b).2 : Nat) : Int)) := by
  obtain ⟨d1, d2⟩ := div_at (d := dim) (m := x) (k := y) (by omega)
  constructor
  · intro h
    subst h
    have h0 : ¬ (0 : Int) ≤ bitN x x := fun h => by
      obtain ⟨k, hk, _⟩ := bit_nat h
      have := cnt_step hx8 hx8 hk
      have := (cnt_same hx8 hx8).2 rfl
      omega
    unfold tgt
    rw [d1]; simp only [Int.toNat_natCast]
    rw [if_pos (by omega)]; decide
  · intro h
    obtain ⟨_, _, _, _, h5⟩ := nxt0 ⟨x, hx8⟩ ⟨b, hb8⟩ h
    have h5 : (0 : Int) ≤ bitN x b := h5
    unfold tgt nxt
    rw [d1, if_neg h]; simp only [Int.toNat_natCast]
    rw [if_neg (by omega)]
def hdP (l : List Pk) : Pk := l.headD (0, 0, 0)
theorem first_no {l : List Pk} (h : ¬ (0 : Int) < (l.length : Int)) : Value.tuple #[.agg #[.int .i64 0, .int .i64 0, .int .i64 0], .bool false] = .tuple #[.agg #[.int .i64 (hdP l).1, .int .i64 (hdP l).2.1, .int .i64 (hdP l).2.2], .bool (decide (l ≠ []))] := by
  have : l = [] := List.eq_nil_of_length_eq_zero (by omega)
  subst this; rfl
theorem first_yes {p : Pk} {q : List Pk} : Value.tuple #[.agg #[.int .i64 p.1, .int .i64 p.2.1, .int .i64 p.2.2], .bool true] = .tuple #[.agg #[.int .i64 (hdP (p :: q)).1, .int .i64 (hdP (p :: q)).2.1, .int .i64 (hdP (p :: q)).2.2], .bool (decide ((p :: q) ≠ []))] := by
  rw [decide_eq_true (by simp)]; rfl
/-- the error of a move -/
def canE (dim : Nat) (r : Int) (L : List (List Pk)) (n : Nat) : Int := if L.getD n [] = [] then 7 else if ableB dim r L n = true then 0 else 8
theorem canE_none {dim n : Nat} {r : Int} {L : List (List Pk)} {l : List Pk} (hl : L[n]? = some l) (h : l = []) : Value.int .i64 7 = .int .i64 (canE dim r L n) := by
  unfold canE; rw [getD_of hl, if_pos h]
theorem canE_out {dim n : Nat} {r : Int} {L : List (List Pk)} {p : Pk} {q : List Pk} (hl : L[n]? = some (p :: q)) (h : tgt dim n p < 0) : Value.int .i64 0 = .int .i64 (canE dim r L n) := by
  unfold canE; rw [getD_of hl, if_neg (by simp)]
  have := able_out (r := r) hl h
  simp only [Value.bool.injEq] at this
  rw [if_pos this.symm]
theorem canE_on {dim n m : Nat} {r : Int} {L : List (List Pk)} {p : Pk} {q l : List Pk} (hl : L[n]? = some (p :: q)) (hm : tgt dim n p = (m : Int)) (hlm : L[m]? = some l) (h : (l.length : Int) < r) : Value.int .i64 0 = .int .i64 (canE dim r L n) := by
  unfold canE; rw [getD_of hl, if_neg (by simp)]
  have := able_on (r := r) hl (by omega) hm hlm
  simp only [Value.bool.injEq] at this
  rw [← this, decide_eq_true h, if_pos rfl]
theorem canE_full {dim n m : Nat} {r : Int} {L : List (List Pk)} {p : Pk} {q l : List Pk} (hl : L[n]? = some (p :: q)) (hm : tgt dim n p = (m : Int)) (hlm : L[m]? = some l) (h : ¬ (l.length : Int) < r) : Value.int .i64 8 = .int .i64 (canE dim r L n) := by
  unfold canE; rw [getD_of hl, if_neg (by simp)]
  have := able_on (r := r) hl (by omega) hm hlm
  simp only [Value.bool.injEq] at this
  rw [← this, decide_eq_false h, if_neg (by decide)]
/-- the cube's blocks after a step: those of before, or new ones -/
def Grown (w0 : World) (s : Option Addr) (T T' : List (TE Pk)) : Prop := ∀ k, tb s T' k → (tb s T k ∨ w0.heap.size ≤ k)

theorem CubeP.fr {w w' : World} {b c : Nat} {d r : Int} {s : Option Addr} {T : List (TE Pk)} {S : Nat → Prop} (h : CubeP w b d r s c T) (hf : Fr S w w') (hb : ¬ S b) (hS : ∀ k, tb s T k → ¬ S k) : CubeP w' b d r s c T :=
  ⟨h.blk.fr hf hb, h.tab.fr hf hS, h.ne⟩
theorem CubeP.ext {w w' : World} {b c : Nat} {d r : Int} {s : Option Addr} {T : List (TE Pk)} (h : CubeP w b d r s c T) (hf : Ext w w') : CubeP w' b d r s c T := h.fr hf (fun hn => hn) (fun _ _ hn => hn)
theorem cons_ne {l : List Pk} (h : l ≠ []) : ∃ p1 p2 p3 q, l = (p1, p2, p3) :: q := by
  cases l with
  | nil => exact absurd rfl h
  | cons p q => obtain ⟨p1, p2, p3⟩ := p; exact ⟨p1, p2, p3, q, rfl⟩
/-- the target's buffer -/
theorem nxt_buf {dim x y pb : Nat} {r a z : Int} {L : List (List Pk)} {q : List Pk} (hV : Valid dim r L) (hx : x < 8) (hy : y ≤ dim) (hb : pb < 8) (hl : L[x * (dim + 1) + y]? = some ((a, (pb : Int), z) :: q)) (hne : ¬ x = pb) :
    ∃ lm, L[(nxt x pb).1 * (dim + 1) + (nxt x pb).2]? = some lm ∧ tgt dim (x * (dim + 1) + y) (a, (pb : Int), z) = (((nxt x pb).1 * (dim + 1) + (nxt x pb).2 : Nat) : Int) ∧ (nxt x pb).1 < 8 ∧ (nxt x pb).2 ≤ 3 ∧ (nxt x pb).1 * (dim + 1) + (nxt x pb).2 ≠ x * (dim + 1) + y ∧ (nxt x pb).2 ≤ dim := by
  have ht := (tgt_nxt (dim := dim) (y := y) (a := a) (z := z) hy hx hb).2 hne
  obtain ⟨h1, h2, h3⟩ := nxt_cnt hx hb hne
  rcases tgt_info hV hl with ⟨h, _⟩ | ⟨m, k, f1, f2, f3, f4, f5, f6, f7, f8⟩
  · omega
  · have hm : (nxt x pb).1 * (dim + 1) + (nxt x pb).2 = m := by omega
    obtain ⟨d1, d2⟩ := div_at (d := dim) (m := x) (k := y) (by omega)
    have hk : (nxt x pb).2 = k := by
      rw [d1] at f5
      simp only [Int.toNat_natCast] at f5
      unfold nxt; rw [if_neg hne]
      simp only [f5, Int.toNat_natCast]
    rw [hm]
    exact ⟨_, List.getElem?_eq_getElem f2, by omega, h1, by omega, f8, by omega⟩
theorem moveL_on {dim n m : Nat} {L : List (List Pk)} {p : Pk} {q lm : List Pk} (ht : tgt dim n p = (m : Int)) (hlm : (L.set n q)[m]? = some lm) : (L.set n q).set m (lm ++ [p]) = movedL dim L n p q := by
  unfold movedL; rw [if_neg (by omega), ht, Int.toNat_natCast, getD_of hlm]
theorem moveL_out {dim n : Nat} {L : List (List Pk)} {p : Pk} {q : List Pk} (ht : tgt dim n p < 0) : L.set n q = movedL dim L n p q := by unfold movedL; rw [if_pos ht]
theorem moveO_on {dim n m : Nat} {p : Pk} (ht : tgt dim n p = (m : Int)) : movedO dim n p = [] := by unfold movedO; rw [if_neg (by omega)]
theorem moveO_out {dim n : Nat} {p : Pk} (ht : tgt dim n p < 0) : movedO dim n p = [p] := by unfold movedO; rw [if_pos ht]
theorem PkS.one {lo b : Nat} {w : World} {p : Pk} (hB : Blk w b (pkC p) 41) (hlo : lo ≤ b) : PkS (Iv lo w.heap.size) w (some ⟨b, 0, none⟩) [p] := by
  obtain ⟨s, c, h1, h2⟩ := PkR.one hB hlo
  injection h1 with h1; subst h1; exact h2
def MoveQ (w0 : World) (b dim : Nat) (r : Int) (s : Option Addr) (c : Nat) (T : List (TE Pk)) (L : List (List Pk)) (n : Nat) (p : Pk) (q : List Pk) (v : Value) (w : World) : Prop :=
  ∃ T' so co, v = .slice so (movedO dim n p).length co ∧ CubeP w b dim r s c T' ∧ T'.map (·.2.2) = movedL dim L n p q ∧ Grown w0 s T T' ∧ PkS (Iv w0.heap.size w.heap.size) w so (movedO dim n p)
theorem Grown.trans {w0 w1 : World} {s : Option Addr} {T T1 T2 : List (TE Pk)} (h : Grown w0 s T T1) (k : Grown w1 s T1 T2) (hs : w0.heap.size ≤ w1.heap.size) : Grown w0 s T T2 := fun j hj => (k j hj).elim (h j) (fun h => .inr (by omega))
theorem Grown.refl (w0 : World) (s : Option Addr) (T : List (TE Pk)) : Grown w0 s T T := fun _ h => .inl h

theorem canE_zero {dim n : Nat} {r : Int} {L : List (List Pk)} (h : canE dim r L n = 0) : ableB dim r L n = true := by
  unfold canE at h
  split at h
  · omega
  · split at h
    · assumption
    · omega
theorem canE_nz {dim n : Nat} {r : Int} {L : List (List Pk)} (h : ¬ canE dim r L n = 0) : ableB dim r L n = false := by
  cases hab : ableB dim r L n with
  | false => rfl
  | true =>
    obtain ⟨p, q, hp⟩ := able_some hab
    exact absurd (by unfold canE; rw [getD_of hp, if_neg (by simp), if_pos hab]) h
theorem own_snocE {e : TypeId} {w : World} {s : Option Addr} {n c a b : Nat} {l : List (Nat × Nat)} (h : OwnS w e 2 s n c (l.flatMap mvC ++ [.int .i64 (a : Int), .int .i64 (b : Int)])) : OwnS w e 2 s n c ((l ++ [(a, b)]).flatMap mvC) := by
  rw [List.flatMap_append]; exact h
def MovesP (w0 : World) (dim : Nat) (r : Int) (L : List (List Pk)) (v : Value) (w : World) : Prop := ∃ s c, v = .slice s (movesL dim r L L.length).length c ∧ MvS (Iv w0.heap.size w.heap.size) w s (movesL dim r L L.length)
theorem movesp_ok {e : TypeId} {w0 w : World} {dim n c : Nat} {r : Int} {L : List (List Pk)} {s : Option Addr} (h : OwnS w e 2 s (movesL dim r L n).length c ((movesL dim r L n).flatMap mvC)) (hn : n = L.length) (hg : ∀ k, ob s k → w0.heap.size ≤ k) : MovesP w0 dim r L (.slice s (movesL dim r L n).length c) w := by
  subst hn
  exact ⟨s, c, rfl, h.sl (by decide) rfl (fun _ _ => rfl) (fun k hk => ⟨hg k hk, h.lt hk⟩)⟩
theorem pop0 : ∀ s : Fin 8, ∀ b : Fin 8, s.val ^^^ b.val < 8 ∧ popN (s.val ^^^ b.val) = cnt s b := by decide +kernel
theorem pop_cnt {s b : Nat} (hs : s < 8) (hb : b < 8) : s ^^^ b < 8 ∧ popN (s ^^^ b) = cnt s b := pop0 ⟨s, hs⟩ ⟨b, hb⟩
theorem wayN_cnt {dim n b : Nat} {a z : Int} : wayN dim n (a, (b : Int), z) = 1 + cnt (n / (dim + 1)) b := by
  simp only [wayN, Int.toNat_natCast]; rw [way_size]; omega
theorem leftN_snd {dim i : Nat} {L : List (List Pk)} {l : List Pk} {k : Nat} (hl : L[i]? = some l) (hk : ¬ (k : Int) < (l.length : Int)) : leftN dim L i + leftB dim i (l.take k) = leftN dim L (i + 1) := by
  rw [leftN_step hl, List.take_of_length_le (by omega)]

/-- the spots of the buffers that go -/
def goI (dim : Nat) (r : Int) (L : List (List Pk)) (i : Nat) : List Nat := (List.range i).filter (goesB dim r L)
def goL (dim : Nat) (r : Int) (L : List (List Pk)) (i : Nat) : List (Nat × Nat) := (goI dim r L i).map fun n => (n / (dim + 1), n % (dim + 1))
theorem goL_t {dim i : Nat} {r : Int} {L : List (List Pk)} (h : goesB dim r L i = true) : goL dim r L (i + 1) = goL dim r L i ++ [(i / (dim + 1), i % (dim + 1))] := by
  unfold goL goI; rw [List.range_succ, List.filter_append, List.map_append]; simp [h]
theorem goL_f {dim i : Nat} {r : Int} {L : List (List Pk)} (h : goesB dim r L i = false) : goL dim r L (i + 1) = goL dim r L i := by
  unfold goL goI; rw [List.range_succ, List.filter_append, List.map_append]; simp [h]
theorem goL_len (dim : Nat) (r : Int) (L : List (List Pk)) (i : Nat) : (goL dim r L i).length ≤ i := by
  unfold goL goI; rw [List.length_map]; exact Nat.le_trans (List.length_filter_le ..) (by simp)
def tkB (dim : Nat) (L : List (List Pk)) (j : Nat) (q : Nat × Nat) : Bool :=
  match L[j]? with
  | some (p :: _) => decide (j / (dim + 1) ≠ p.2.1.toNat) && decide (nxt (j / (dim + 1)) p.2.1.toNat = q)
  | _ => false
/-- which buffers are taken by heads before -/
def takenB (dim : Nat) (L : List (List Pk)) : Nat → Nat × Nat → Bool
  | 0, _ => false
  | i + 1, q => takenB dim L i q || tkB dim L i q
theorem taken_some {dim : Nat} {L : List (List Pk)} {q : Nat × Nat} : ∀ {i}, takenB dim L i q = true → ∃ j, j < i ∧ tkB dim L j q = true
  | 0, h => by cases h
  | i + 1, h => by
    unfold takenB at h
    rw [Bool.or_eq_true] at h
    rcases h with h | h
    · obtain ⟨j, h1, h2⟩ := taken_some h; exact ⟨j, by omega, h2⟩
    · exact ⟨i, by omega, h⟩
theorem taken_of {dim j : Nat} {L : List (List Pk)} {q : Nat × Nat} (h : tkB dim L j q = true) : ∀ {i}, j < i → takenB dim L i q = true
  | 0, hi => by omega
  | i + 1, hi => by
    unfold takenB
    rw [Bool.or_eq_true]
    rcases Nat.lt_or_ge j i with h1 | h1
    · exact .inl (taken_of h h1)
    · obtain rfl : j = i := by omega
      exact .inr h
theorem same_sw {dim i j : Nat} {r : Int} {L : List (List Pk)} {p x : Pk} {q y : List Pk} (hV : Valid dim r L) (hi : L[i]? = some (p :: q)) (hj : L[j]? = some (x :: y)) (ht : tgt dim i p = tgt dim j x) (h0 : 0 ≤ tgt dim i p) : i / (dim + 1) = j / (dim + 1) := by
  rcases tgt_info hV hi with ⟨h, _⟩ | ⟨m, k, h1, h2, h3, h4, _, _⟩
  · omega
  rcases tgt_info hV hj with ⟨h, _⟩ | ⟨m', k', g1, g2, g3, g4, _, _⟩
  · omega
  obtain rfl : m = m' := by omega
  obtain ⟨hi1, hi2, hi3, hi4⟩ := hV.at hi
  obtain ⟨hj1, hj2, hj3, hj4⟩ := hV.at hj
  have hd := hV.hd
  obtain ⟨d1, d2⟩ := div_at (d := dim) (m := overN (i / (dim + 1)) k) (k := k) (by omega)
  obtain ⟨c1, c2⟩ := div_at (d := dim) (m := overN (j / (dim + 1)) k') (k := k') (by omega)
  rw [← h4] at d1 d2
  rw [← g4] at c1 c2
  obtain rfl : k = k' := by omega
  have o1 := over_over0 ⟨i / (dim + 1), hi3⟩ ⟨k, by omega⟩
  have o2 := over_over0 ⟨j / (dim + 1), hj3⟩ ⟨k, by omega⟩
  simp only at o1 o2
  rw [← d1] at o1
  rw [← c1, o1] at o2
  exact o2
/-- a head's target told by the pair to which it goes -/
theorem tgt_pair {dim n : Nat} {r : Int} {L : List (List Pk)} {p : Pk} {q : List Pk} (hV : Valid dim r L) (hn : L[n]? = some (p :: q)) :
    (n / (dim + 1) = p.2.1.toNat ∧ tgt dim n p < 0) ∨ (n / (dim + 1) ≠ p.2.1.toNat ∧ (nxt (n / (dim + 1)) p.2.1.toNat).2 < dim + 1 ∧ tgt dim n p = (((nxt (n / (dim + 1)) p.2.1.toNat).1 * (dim + 1) + (nxt (n / (dim + 1)) p.2.1.toNat).2 : Nat) : Int)) := by
  obtain ⟨hn1, hn2, hn3, hn4⟩ := hV.at hn
  obtain ⟨a, b, hp, ha, hb⟩ := can_in ((hV.buf hn).2 p (List.mem_cons_self ..))
  have h28 := pow2_le dim (Nat.le_refl _) hV.hd
  have hnn : n = n / (dim + 1) * (dim + 1) + n % (dim + 1) := (div_mod_n n dim).symm
  have ht := tgt_nxt (dim := dim) (x := n / (dim + 1)) (y := n % (dim + 1)) (b := b) (a := (a : Int)) (z := p.2.2) hn4 hn3 (by omega)
  rw [← hnn] at ht
  rw [hp]
  simp only [Int.toNat_natCast]
  by_cases h : n / (dim + 1) = b
  · exact .inl ⟨h, ht.1 h⟩
  · refine .inr ⟨h, ?_, ht.2 h⟩
    have hl : L[n / (dim + 1) * (dim + 1) + n % (dim + 1)]? = some (((a : Int), (b : Int), p.2.2) :: q) := by rw [← hnn, ← hp]; exact hn
    obtain ⟨_, _, _, _, _, _, h7⟩ := nxt_buf hV hn3 hn4 (by omega) hl h
    omega
theorem pair_inj {d a b c e : Nat} (hb : b < d + 1) (he : e < d + 1) (h : a * (d + 1) + b = c * (d + 1) + e) : a = c ∧ b = e := by
  obtain ⟨h1, h2⟩ := div_at (d := d) (m := a) (k := b) hb
  obtain ⟨h3, h4⟩ := div_at (d := d) (m := c) (k := e) he
  rw [h] at h1 h2
  omega
theorem goes_taken {dim i : Nat} {r : Int} {L : List (List Pk)} {p : Pk} {q : List Pk} (hV : Valid dim r L) (hi : L[i]? = some (p :: q)) (hne : i / (dim + 1) ≠ p.2.1.toNat) (h : takenB dim L i (nxt (i / (dim + 1)) p.2.1.toNat) = true) : goesB dim r L i = false := by
  obtain ⟨j, hj, ht⟩ := taken_some h
  unfold tkB at ht
  cases hL : L[j]? with
  | none => rw [hL] at ht; cases ht
  | some l =>
    cases l with
    | nil => rw [hL] at ht; cases ht
    | cons x y =>
      rw [hL] at ht
      simp only [Bool.and_eq_true, decide_eq_true_eq] at ht
      rcases tgt_pair hV hi with ⟨h1, _⟩ | ⟨_, h2, h3⟩
      · exact absurd h1 hne
      rcases tgt_pair hV hL with ⟨g1, _⟩ | ⟨_, g2, g3⟩
      · exact absurd g1 ht.1
      rw [ht.2] at g3
      have hsw := same_sw hV hi hL (by omega) (by omega)
      cases hg : goesB dim r L i with
      | false => rfl
      | true =>
        exfalso
        exact goes_uniq hV hi hL hg hj rfl (by omega) (by omega)
theorem goes_not_taken {dim i : Nat} {r : Int} {L : List (List Pk)} {p : Pk} {q : List Pk} (hV : Valid dim r L) (hi : L[i]? = some (p :: q)) (hne : i / (dim + 1) ≠ p.2.1.toNat) (h : takenB dim L i (nxt (i / (dim + 1)) p.2.1.toNat) = false) : goesB dim r L i = ableB dim r L i := by
  have hall : ((List.range i).all fun j => decide (j < i - i % (dim + 1)) || !clashB dim L i j) = true := by
    rw [List.all_eq_true]
    intro j hj
    have hj := List.mem_range.1 hj
    have hcl : clashB dim L i j = false := by
      cases hL : L[j]? with
      | none => unfold clashB; rw [hL]
      | some l =>
        cases l with
        | nil => unfold clashB; rw [hL]
        | cons x y =>
          rcases tgt_pair hV hi with ⟨h1, _⟩ | ⟨_, h2, h3⟩
          · exact absurd h1 hne
          refine clash_no hi hL (fun he => ?_)
          rcases tgt_pair hV hL with ⟨g1, g2⟩ | ⟨g1, g2, g3⟩
          · omega
          obtain ⟨e1, e2⟩ := pair_inj g2 h2 (Int.ofNat.inj (g3.symm.trans (he.trans h3)))
          have : takenB dim L i (nxt (i / (dim + 1)) p.2.1.toNat) = true := taken_of (j := j) (by unfold tkB; rw [hL]; simp only [decide_eq_true g1, Bool.true_and, decide_eq_true_eq]; exact Prod.ext e1 e2) hj
          rw [h] at this; cases this
    rw [hcl]; simp
  unfold goesB; rw [hall, Bool.and_true]
/-- one after the other: what each move makes of it -/
def stp (dim : Nat) (S : List (List Pk) × List Pk) (n : Nat) : List (List Pk) × List Pk := (mvL dim S.1 n, S.2 ++ mvO dim S.1 n)
def cur (dim : Nat) (r : Int) (L : List (List Pk)) (n : Nat) : List (List Pk) × List Pk := (goI dim r L n).foldl (stp dim) (L, [])
theorem cur_t {dim n : Nat} {r : Int} {L : List (List Pk)} (h : goesB dim r L n = true) : cur dim r L (n + 1) = stp dim (cur dim r L n) n := by
  unfold cur goI; rw [List.range_succ, List.filter_append, List.foldl_append]; simp [h]
theorem cur_f {dim n : Nat} {r : Int} {L : List (List Pk)} (h : ¬ goesB dim r L n = true) : cur dim r L (n + 1) = cur dim r L n := by
  unfold cur goI; rw [List.range_succ, List.filter_append, List.foldl_append]; simp [h]
theorem mvL_len (dim n : Nat) (L : List (List Pk)) : (mvL dim L n).length = L.length := by
  unfold mvL movedL; split
  · split <;> simp
  · rfl
theorem cur_len (dim : Nat) (r : Int) (L : List (List Pk)) : ∀ n, (cur dim r L n).1.length = L.length
  | 0 => rfl
  | n + 1 => by
    by_cases hg : goesB dim r L n = true
    · rw [cur_t hg]; unfold stp; rw [mvL_len]; exact cur_len dim r L n
    · rw [cur_f hg]; exact cur_len dim r L n
theorem come_not {dim m i : Nat} {r : Int} {L : List (List Pk)} (h : ¬ goesB dim r L i = true) : comeL dim r L (i + 1) m = comeL dim r L i m := by
  conv => lhs; unfold comeL
  rw [if_neg h, List.append_nil]
theorem come_go {dim m i : Nat} {r : Int} {L : List (List Pk)} {p : Pk} {q : List Pk} (h : goesB dim r L i = true) (hp : L[i]? = some (p :: q)) : comeL dim r L (i + 1) m = comeL dim r L i m ++ if tgt dim i p = (m : Int) then [p] else [] := by
  conv => lhs; unfold comeL
  rw [if_pos h, hp]
theorem cur_at {dim : Nat} {r : Int} {L : List (List Pk)} (hV : Valid dim r L) : ∀ n, n ≤ L.length →
    (∀ m l, L[m]? = some l → (cur dim r L n).1[m]? = some ((if m < n ∧ goesB dim r L m = true then l.tail else l) ++ comeL dim r L n m)) ∧ (cur dim r L n).2 = (rdB dim r L n).2
  | 0, _ => ⟨fun m l hl => by rw [if_neg (by omega)]; simpa [cur, goI, comeL] using hl, by simp [cur, goI, rdB]⟩
  | n + 1, hn => by
    obtain ⟨ih1, ih2⟩ := cur_at hV n (by omega)
    by_cases hg : goesB dim r L n = true
    · obtain ⟨_, p, q, hp⟩ := goes_some hg
      have hM := ih1 n (p :: q) hp
      rw [if_neg (by omega)] at hM
      have hM : (cur dim r L n).1[n]? = some (p :: (q ++ comeL dim r L n n)) := hM
      have hlen := cur_len dim r L n
      rw [cur_t hg]
      constructor
      · intro m l hl
        have hm := ih1 m l hl
        have hmlt : m < (cur dim r L n).1.length := (List.getElem?_eq_some_iff.1 hm).1
        rw [come_go hg hp]
        unfold stp mvL
        rw [hM]
        simp only
        unfold movedL
        rcases tgt_info hV hp with ⟨h, _⟩ | ⟨t, k, h1, h2, _, _, _, _, _, h8⟩
        · rw [if_pos h, if_neg (show ¬ tgt dim n p = (m : Int) by omega), List.append_nil]
          by_cases hmn : n = m
          · subst hmn
            rw [List.getElem?_set_self hmlt, if_pos ⟨by omega, hg⟩]
            rw [hp] at hl
            obtain rfl := Option.some.inj hl
            rfl
          · rw [List.getElem?_set_ne hmn, hm]
            by_cases hc : m < n ∧ goesB dim r L m = true
            · rw [if_pos hc, if_pos ⟨by omega, hc.2⟩]
            · rw [if_neg hc, if_neg (fun h => hc ⟨by omega, h.2⟩)]
        · rw [h1, if_neg (by omega), Int.toNat_natCast]
          obtain ⟨lt, hlt⟩ : ∃ lt, L[t]? = some lt := ⟨_, List.getElem?_eq_getElem h2⟩
          have hT := ih1 t lt hlt
          have hT2 : ((cur dim r L n).1.set n (q ++ comeL dim r L n n))[t]? = (cur dim r L n).1[t]? := List.getElem?_set_ne (Ne.symm h8)
          by_cases hmt : t = m
          · subst hmt
            rw [List.getElem?_set_self (by rw [List.length_set]; exact hmlt), if_pos rfl]
            rw [List.getD_eq_getElem?_getD, hT2, hm, Option.getD_some, List.append_assoc]
            have : ¬ t = n := h8
            by_cases hc : t < n ∧ goesB dim r L t = true
            · rw [if_pos hc, if_pos ⟨by omega, hc.2⟩]
            · rw [if_neg hc, if_neg (fun h => hc ⟨by omega, h.2⟩)]
          · rw [List.getElem?_set_ne hmt, if_neg (show ¬ ((t : Nat) : Int) = (m : Int) by omega), List.append_nil]
            by_cases hmn : n = m
            · subst hmn
              rw [List.getElem?_set_self hmlt, if_pos ⟨by omega, hg⟩]
              rw [hp] at hl
              obtain rfl := Option.some.inj hl
              rfl
            · rw [List.getElem?_set_ne hmn, hm]
              by_cases hc : m < n ∧ goesB dim r L m = true
              · rw [if_pos hc, if_pos ⟨by omega, hc.2⟩]
              · rw [if_neg hc, if_neg (fun h => hc ⟨by omega, h.2⟩)]
      · unfold stp mvO
        rw [hM]
        conv => rhs; unfold rdB
        rw [if_pos hg, hp]
        simp only
        unfold movedO
        rcases tgt_info hV hp with ⟨h, _⟩ | ⟨t, k, h1, h2, _⟩
        · rw [if_pos h, if_pos h, ih2]
        · rw [if_neg (by omega), if_neg (by omega), ih2, List.append_nil]
    · rw [cur_f hg]
      constructor
      · intro m l hl
        rw [ih1 m l hl, come_not hg]
        by_cases hc : m < n ∧ goesB dim r L m = true
        · rw [if_pos hc, if_pos ⟨by omega, hc.2⟩]
        · rw [if_neg hc, if_neg (fun h => hc ⟨by have h1 := h.1; have h2 := h.2; have : m ≠ n := fun e => hg (by rw [← e]; exact h2); omega, h.2⟩)]
      · rw [ih2]
        conv => rhs; unfold rdB
        rw [if_neg hg]
theorem cur_valid {dim n : Nat} {r : Int} {L : List (List Pk)} (hV : Valid dim r L) (hn : n ≤ L.length) : Valid dim r (cur dim r L n).1 := by
  refine valid_of hV.hd hV.hr (by rw [cur_len]; exact hV.len) (fun m l' hl' => ?_)
  have hlt : m < L.length := by have := (List.getElem?_eq_some_iff.1 hl').1; rwa [cur_len] at this
  obtain ⟨l, hl⟩ : ∃ l, L[m]? = some l := ⟨_, List.getElem?_eq_getElem hlt⟩
  have h1 := (cur_at hV n hn).1 m l hl
  rw [h1] at hl'
  obtain rfl := Option.some.inj hl'
  have hbuf := hV.buf hl
  have hr := hV.hr
  have ht : (if m < n ∧ goesB dim r L m = true then l.tail else l).length ≤ l.length ∧ ∀ p ∈ (if m < n ∧ goesB dim r L m = true then l.tail else l), p ∈ l := by
    split
    · exact ⟨by simp, fun p hp => List.mem_of_mem_tail hp⟩
    · exact ⟨Nat.le_refl _, fun _ hp => hp⟩
  rcases come_cases (m := m) hV n with h | ⟨j, p, q, g1, g2, g3, g4, g5⟩
  · rw [h, List.append_nil]
    exact ⟨by have := ht.1; omega, fun p hp => hbuf.2 p (ht.2 p hp)⟩
  · rw [g5]
    obtain ⟨hab, _⟩ := goes_some g2
    rcases tgt_info hV g3 with ⟨h, _⟩ | ⟨t, k, f1, f2, f3, f4, f5, f6, f7, f8⟩
    · omega
    obtain rfl : t = m := by omega
    have hroom : (l.length : Int) < r := by
      unfold ableB at hab
      rw [g3] at hab
      simp only [f1, Int.toNat_natCast, getD_of hl, Bool.or_eq_true, decide_eq_true_eq] at hab
      omega
    refine ⟨by rw [List.length_append, List.length_singleton]; have := ht.1; omega, fun x hx => ?_⟩
    rcases List.mem_append.1 hx with hx | hx
    · exact hbuf.2 x (ht.2 x hx)
    · rw [List.mem_singleton.1 hx]; exact f7
theorem cur_end {dim : Nat} {r : Int} {L : List (List Pk)} (hV : Valid dim r L) : cur dim r L L.length = rdB dim r L L.length := by
  obtain ⟨h1, h2⟩ := cur_at hV L.length (Nat.le_refl _)
  refine Prod.ext (List.ext_getElem? fun m => ?_) h2
  cases hl : L[m]? with
  | none =>
    have hge : L.length ≤ m := List.getElem?_eq_none_iff.1 hl
    rw [List.getElem?_eq_none (by rw [cur_len]; exact hge), List.getElem?_eq_none (by rw [rdB_len]; exact hge)]
  | some l =>
    have hlt := (List.getElem?_eq_some_iff.1 hl).1
    rw [h1 m l hl, round_at hV hl]
    by_cases hg : goesB dim r L m = true
    · rw [if_pos ⟨hlt, hg⟩, if_pos hg]
    · rw [if_neg (fun h => hg h.2), if_neg hg]
theorem take_filter (q : Nat → Bool) : ∀ (K g n : Nat), ((List.range K).filter q)[g]? = some n → ((List.range K).filter q).take g = (List.range n).filter q ∧ n < K ∧ q n = true
  | 0, g, n, h => by simp at h
  | K + 1, g, n, h => by
    rw [List.range_succ, List.filter_append] at h ⊢
    rcases Nat.lt_or_ge g ((List.range K).filter q).length with hg | hg
    · rw [List.getElem?_append_left hg] at h
      obtain ⟨h1, h2, h3⟩ := take_filter q K g n h
      rw [List.take_append_of_le_length (by omega)]
      exact ⟨h1, by omega, h3⟩
    · rw [List.getElem?_append_right hg] at h
      by_cases hq : q K = true
      · rw [List.filter_cons_of_pos hq, List.filter_nil] at h ⊢
        have hg0 : g - ((List.range K).filter q).length = 0 := by
          rcases Nat.eq_zero_or_pos (g - ((List.range K).filter q).length) with h0 | h0
          · exact h0
          · rw [List.getElem?_eq_none (by simp; omega)] at h; cases h
        rw [hg0] at h
        simp at h
        subst h
        have : g = ((List.range K).filter q).length := by omega
        rw [this, List.take_left']
        · exact ⟨rfl, by omega, hq⟩
        · rfl
      · rw [List.filter_cons_of_neg hq, List.filter_nil] at h; simp at h
/-- the state before the g-th move of a round -/
def gst (dim : Nat) (r : Int) (L : List (List Pk)) (g : Nat) : List (List Pk) × List Pk := ((goI dim r L L.length).take g).foldl (stp dim) (L, [])
theorem gst_at {dim g : Nat} {r : Int} {L : List (List Pk)} {x : Nat × Nat} (hV : Valid dim r L) (h : (goL dim r L L.length)[g]? = some x) :
    ∃ n p1 p2 p3 q, x = (n / (dim + 1), n % (dim + 1)) ∧ n < L.length ∧ Valid dim r (gst dim r L g).1 ∧ (gst dim r L g).1[n]? = some ((p1, p2, p3) :: q) ∧ gst dim r L (g + 1) = (movedL dim (gst dim r L g).1 n (p1, p2, p3) q, (gst dim r L g).2 ++ movedO dim n (p1, p2, p3)) := by
  unfold goL at h
  rw [List.getElem?_map] at h
  cases hg : (goI dim r L L.length)[g]? with
  | none => rw [hg] at h; cases h
  | some n =>
    rw [hg] at h
    have hx := (Option.some.inj h).symm
    obtain ⟨h1, h2, h3⟩ := take_filter _ _ _ _ hg
    have hc : gst dim r L g = cur dim r L n := by unfold gst cur goI; rw [← h1]
    obtain ⟨_, p, q, hp⟩ := goes_some h3
    have hM := (cur_at hV n (by omega)).1 n (p :: q) hp
    rw [if_neg (by omega)] at hM
    have hM : (cur dim r L n).1[n]? = some (p :: (q ++ comeL dim r L n n)) := hM
    have hs : gst dim r L (g + 1) = stp dim (gst dim r L g) n := by
      unfold gst; rw [List.take_add_one, hg, List.foldl_append]; rfl
    obtain ⟨p1, p2, p3⟩ := p
    refine ⟨n, p1, p2, p3, _, hx, h2, by rw [hc]; exact cur_valid hV (by omega), by rw [hc]; exact hM, ?_⟩
    rw [hs, hc]
    unfold stp mvL mvO
    rw [hM]
theorem gst_end {dim g : Nat} {r : Int} {L : List (List Pk)} (hV : Valid dim r L) (h : ¬ (g : Int) < ((goL dim r L L.length).length : Int)) : gst dim r L g = rdB dim r L L.length := by
  rw [← cur_end hV]
  unfold gst cur
  rw [List.take_of_length_le]
  unfold goL at h
  rw [List.length_map] at h
  omega
theorem gst_out {dim g : Nat} {r : Int} {L : List (List Pk)} : (gst dim r L g).2.length ≤ g := by
  have key : ∀ (l : List Nat) (S : List (List Pk) × List Pk), (l.foldl (stp dim) S).2.length ≤ S.2.length + l.length := by
    intro l
    induction l with
    | nil => intro S; simp
    | cons n l ih =>
      intro S
      rw [List.foldl_cons]
      have := ih (stp dim S n)
      have h2 : (stp dim S n).2.length ≤ S.2.length + 1 := by
        unfold stp mvO
        rw [List.length_append]
        split
        · have := movedO_len dim n ‹Pk›; omega
        · simp
      rw [List.length_cons]; omega
  have := key ((goI dim r L L.length).take g) (L, [])
  unfold gst
  rw [List.length_take] at this
  simp only [List.length_nil] at this
  omega
def RoundP (w0 : World) (b dim : Nat) (r : Int) (s : Option Addr) (T : List (TE Pk)) (L : List (List Pk)) (v : Value) (w : World) : Prop :=
  ∃ s' c' T' so co, v = .slice so (rdB dim r L L.length).2.length co ∧ CubeP w b dim r s' c' T' ∧ T'.map (·.2.2) = (rdB dim r L L.length).1 ∧ (∀ k, tb s' T' k → (tb s T k ∨ w0.heap.size ≤ k)) ∧ PkS (Iv w0.heap.size w.heap.size) w so (rdB dim r L L.length).2

theorem goes_nil {dim i : Nat} {r : Int} {L : List (List Pk)} (h : L[i]? = some []) : goesB dim r L i = false := by
  unfold goesB ableB; rw [h]; rfl
theorem goes_takenN {dim i a b : Nat} {r z : Int} {L : List (List Pk)} {q : List Pk} (hV : Valid dim r L) (hi : L[i]? = some (((a : Int), (b : Int), z) :: q)) (hne : ¬ i / (dim + 1) = b) (h : takenB dim L i (nxt (i / (dim + 1)) b) = true) : goesB dim r L i = false :=
  goes_taken hV hi (by simpa using hne) (by simpa using h)
theorem goes_roomN {dim i a b : Nat} {r z : Int} {L : List (List Pk)} {q lm : List Pk} (hV : Valid dim r L) (hi : L[i]? = some (((a : Int), (b : Int), z) :: q)) (hne : ¬ i / (dim + 1) = b) (h : takenB dim L i (nxt (i / (dim + 1)) b) = false)
    (hlm : L[(nxt (i / (dim + 1)) b).1 * (dim + 1) + (nxt (i / (dim + 1)) b).2]? = some lm) (ht : tgt dim i ((a : Int), (b : Int), z) = (((nxt (i / (dim + 1)) b).1 * (dim + 1) + (nxt (i / (dim + 1)) b).2 : Nat) : Int)) : goesB dim r L i = decide ((lm.length : Int) < r) := by
  rw [goes_not_taken hV hi (by simpa using hne) (by simpa using h)]
  have := able_on (r := r) hi (by omega) ht hlm
  simp only [Value.bool.injEq] at this
  exact this.symm
theorem goes_outN {dim i a b : Nat} {r z : Int} {L : List (List Pk)} {q : List Pk} (hi : L[i]? = some (((a : Int), (b : Int), z) :: q)) (ht : tgt dim i ((a : Int), (b : Int), z) < 0) : goesB dim r L i = true := by
  have hab := able_out (r := r) hi ht
  simp only [Value.bool.injEq] at hab
  have := goes_out hi hab.symm (by omega)
  simp only [Value.bool.injEq] at this
  exact this.symm
section tk
variable {dim i a b : Nat} {z : Int} {L : List (List Pk)} {q : List Pk}
theorem tk_nil (h : L[i]? = some []) (k : Nat × Nat) : takenB dim L i k = takenB dim L (i + 1) k := by
  conv => rhs; unfold takenB tkB
  rw [h]; simp
theorem tk_cons (hi : L[i]? = some (((a : Int), (b : Int), z) :: q)) (k : Nat × Nat) : takenB dim L (i + 1) k = (takenB dim L i k || (decide (i / (dim + 1) ≠ b) && decide (nxt (i / (dim + 1)) b = k))) := by
  conv => lhs; unfold takenB tkB
  rw [hi]; simp
theorem tk_again (hi : L[i]? = some (((a : Int), (b : Int), z) :: q)) (h : takenB dim L i (nxt (i / (dim + 1)) b) = true) (k : Nat × Nat) : takenB dim L i k = takenB dim L (i + 1) k := by
  rw [tk_cons hi]
  by_cases hk : nxt (i / (dim + 1)) b = k
  · subst hk; rw [h]; rfl
  · simp [hk]
theorem tk_goes (hi : L[i]? = some (((a : Int), (b : Int), z) :: q)) (hne : ¬ i / (dim + 1) = b) (k : Nat × Nat) : (if k = nxt (i / (dim + 1)) b then true else takenB dim L i k) = takenB dim L (i + 1) k := by
  rw [tk_cons hi]
  by_cases hk : k = nxt (i / (dim + 1)) b
  · subst hk; simp [hne]
  · rw [if_neg hk]; simp [Ne.symm hk]
theorem tk_stay {v : Bool} (hi : L[i]? = some (((a : Int), (b : Int), z) :: q)) (heq : i / (dim + 1) = b) (h : takenB dim L i (nxt (i / (dim + 1)) b) = v) (k : Nat × Nat) : (if k = nxt (i / (dim + 1)) b then v else takenB dim L i k) = takenB dim L (i + 1) k := by
  rw [tk_cons hi]
  simp only [heq, ne_eq, not_true_eq_false, decide_false, Bool.false_and, Bool.or_false]
  rw [heq] at h
  by_cases hk : k = nxt b b
  · subst hk; rw [if_pos rfl, h]
  · rw [if_neg hk]
end tk
theorem moveN {P : Program} {f : FuncId} {args : List Value} {w : World} {S : Nat → Prop} {b dim n : Nat} {r : Int} {s : Option Addr} {c : Nat} {T : List (TE Pk)} {L : List (List Pk)} {p : Pk} {q : List Pk} (h : CT P f args w S (fun v w' => MoveQ w b dim r s c T L (n / (dim + 1) * (dim + 1) + n % (dim + 1)) p q v w')) :
    CT P f args w S (fun v w' => MoveQ w b dim r s c T L n p q v w') := by rw [div_mod_n] at h; exact h
theorem roundp_ok {w0 w : World} {b dim g n c' co : Nat} {r : Int} {s s' so : Option Addr} {T T' : List (TE Pk)} {L : List (List Pk)} (hV : Valid dim r L) (hlt : ¬ (g : Int) < ((goL dim r L L.length).length : Int)) (ho : OwnS w 41 3 so n co ((gst dim r L g).2.flatMap pkC)) (hn : n = (gst dim r L g).2.length)
    (hge : ∀ k, ob so k → w0.heap.size ≤ k) (hC : CubeP w b dim r s' c' T') (hm : T'.map (·.2.2) = (gst dim r L g).1) (hG : ∀ k, tb s' T' k → (tb s T k ∨ w0.heap.size ≤ k)) : RoundP w0 b dim r s T L (.slice so n co) w := by
  subst hn
  rw [gst_end hV hlt] at hm ho ⊢
  exact ⟨s', c', T', so, co, rfl, hC, hm, hG, ho.sl (by decide) rfl (fun _ _ => rfl) (fun k hk => ⟨hge k hk, ho.lt hk⟩)⟩

def OpenR (lo : Nat) (d r : Int) (L : List (List Pk)) (v : Value) (w : World) : Prop :=
  ∃ p : Option Addr, v = .tuple #[.pointer p, .int .i64 (chkE d r L)] ∧ (chkE d r L = 0 → ∃ (dim b : Nat) (s : Option Addr) (c : Nat) (T : List (TE Pk)), d = (dim : Int) ∧ Valid dim r L ∧ p = some ⟨b, 0, none⟩ ∧ CubeP w b d r s c T ∧ T.map (·.2.2) = L ∧ lo ≤ b ∧ ∀ k, tb s T k → lo ≤ k)
theorem openR {P : Program} {f : FuncId} {args : List Value} {S : Nat → Prop} {w : World} {lo : Nat} {d r : Int} {L : List (List Pk)} (h : CT P f args w S (OpenQ lo d r L)) : CT P f args w S (OpenR lo d r L) :=
  h.mono (fun _ _ h => h) fun v w' _ h => by
    rcases h with ⟨h1, h2⟩ | ⟨h1, b, s, c, T, h2, h3, h4, h5, h6⟩
    · exact ⟨none, h2, fun h => absurd h h1⟩
    · obtain ⟨dim, hd, hV⟩ := chk_zero h1
      exact ⟨_, by rw [h1]; exact h2, fun _ => ⟨dim, b, s, c, T, hd, hV, rfl, h3, h4, h5, h6⟩⟩
/-- what a change comes to: what came out, the error, and the buffers behind it -/
def ChgQ (w : World) (b dim : Nat) (r : Int) (s : Option Addr) (T : List (TE Pk)) (o : List Pk) (e : Int) (L' : List (List Pk)) (v : Value) (w' : World) : Prop :=
  ∃ s' c' T' so co, v = .tuple #[.slice so o.length co, .int .i64 e] ∧ CubeP w' b dim r s' c' T' ∧ T'.map (·.2.2) = L' ∧ (∀ k, tb s' T' k → (tb s T k ∨ w.heap.size ≤ k)) ∧ PkS (Iv w.heap.size w'.heap.size) w' so o
def ZC : Value := .agg #[.int .i64 0, .int .i64 0, .slice none 0 0]
def OnQ (lo : Nat) (d r : Int) (L : List (List Pk)) (o : List Pk) (e : Int) (L' : List (List Pk)) (v : Value) (w : World) : Prop :=
  (chkE d r L ≠ 0 ∧ v = .tuple #[ZC, .slice none 0 0, .int .i64 (chkE d r L)]) ∨ (chkE d r L = 0 ∧ e ≠ 0 ∧ v = .tuple #[ZC, .slice none 0 0, .int .i64 e]) ∨
  (chkE d r L = 0 ∧ e = 0 ∧ ∃ u ov, v = .tuple #[u, ov, .int .i64 0] ∧ CubeR lo w u d r L' ∧ PkR lo w ov o)
theorem on_ok {lo n co : Nat} {d r e : Int} {L L' : List (List Pk)} {o : List Pk} {u : Value} {so : Option Addr} {w : World} {F : Nat → Prop} (h1 : chkE d r L = 0) (h2 : e = 0) (hu : CubeR lo w u d r L') (ho : PkS F w so o) (hF : ∀ k, F k → lo ≤ k) (hn : n = o.length) : OnQ lo d r L o e L' (.tuple #[u, .slice so n co, .int .i64 0]) w := by
  subst hn
  exact .inr (.inr ⟨h1, h2, _, _, rfl, hu, so, co, rfl, (PkS.lt ho).wide (fun k hk => ⟨hF k hk.1, hk.2⟩)⟩)
/-- the buffers behind a packet that is put in -/
def putL (dim : Nat) (r : Int) (L : List (List Pk)) (p : Pk) : List (List Pk) := if putE dim r L p = 0 then L.set (putN dim p) (L.getD (putN dim p) [] ++ [p]) else L
theorem put1_no {dim : Nat} {r : Int} {L : List (List Pk)} {p : Pk} {b : Nat} {s : Option Addr} {c : Nat} {T : List (TE Pk)} {w w' : World} {e : Int} (he : putE dim r L p = e) (hne : e ≠ 0) (hC : CubeP w' b dim r s c T) (hm : T.map (·.2.2) = L) :
    ChgQ w b dim r s T [] (putE dim r L p) (putL dim r L p) (.tuple #[.slice none 0 0, .int .i64 e]) w' := by
  subst he
  exact ⟨s, c, T, none, 0, rfl, hC, by unfold putL; rw [if_neg hne]; exact hm, fun k hk => .inl hk, Sl.nil _⟩
theorem put1_ok {dim a b' : Nat} {r z : Int} {L : List (List Pk)} {l : List Pk} {b : Nat} {s s' : Option Addr} {c' : Nat} {T T' : List (TE Pk)} {w w' : World} (hV : Valid dim r L) (ha : a < 2 ^ dim) (hb : b' < 2 ^ dim) (hl : L[a * (dim + 1) + dim]? = some l) (h : (l.length : Int) < r) (hC : CubeP w' b dim r s' c' T')
    (hm : T'.map (·.2.2) = L.set (a * (dim + 1) + dim) (l ++ [((a : Int), (b' : Int), z)])) (hG : ∀ k, tb s' T' k → (tb s T k ∨ w.heap.size ≤ k)) : ChgQ w b dim r s T [] (putE dim r L ((a : Int), (b' : Int), z)) (putL dim r L ((a : Int), (b' : Int), z)) (.tuple #[.slice none 0 0, .int .i64 0]) w' := by
  have he := putE_ok (z := z) hV ha hb hl (by omega)
  refine ⟨s', c', T', none, 0, by rw [he]; rfl, hC, ?_, hG, Sl.nil _⟩
  unfold putL; rw [if_pos he, hm]
  simp only [putN, Int.toNat_natCast]
  rw [getD_of hl]
/-- the buffers behind a move -/
def doL (dim : Nat) (r : Int) (L : List (List Pk)) (a b : Int) : List (List Pk) := if doE dim r L a b = 0 then mvL dim L (doN dim a b) else L
theorem do1_no {dim : Nat} {r a b' : Int} {L : List (List Pk)} {b : Nat} {s : Option Addr} {c : Nat} {T : List (TE Pk)} {w w' : World} {e : Int} (he : doE dim r L a b' = e) (hne : e ≠ 0) (hC : CubeP w' b dim r s c T) (hm : T.map (·.2.2) = L) :
    ChgQ w b dim r s T (doO dim r L a b') (doE dim r L a b') (doL dim r L a b') (.tuple #[.slice none 0 0, .int .i64 e]) w' := by
  subst he
  have ho : doO dim r L a b' = [] := by unfold doO; rw [if_neg hne]
  exact ⟨s, c, T, none, 0, by rw [ho]; rfl, hC, by unfold doL; rw [if_neg hne]; exact hm, fun k hk => .inl hk, by rw [ho]; exact Sl.nil _⟩
theorem doE_can {dim a b : Nat} {r : Int} {L : List (List Pk)} {l : List Pk} (hV : Valid dim r L) (ha : a < 2 ^ dim) (hb : b ≤ dim) (hl : L[a * (dim + 1) + b]? = some l) : doE dim r L a b = canE dim r L (a * (dim + 1) + b) := by
  unfold canE
  rw [getD_of hl]
  by_cases h : l = []
  · rw [if_pos h]; exact doE_none hV hl (by rw [h]; rfl)
  · have hne : ¬ ((l.length : Nat) : Int) = 0 := fun h0 => h (List.eq_nil_of_length_eq_zero (by omega))
    rw [if_neg h]
    cases hab : ableB dim r L (a * (dim + 1) + b) with
    | true => rw [if_pos rfl]; exact doE_ok hV ha hb hl hne hab
    | false => rw [if_neg (by decide)]; exact doE_stuck hV ha hb hl hne hab
theorem do1_ok {dim a b' : Nat} {r p1 p2 p3 : Int} {L : List (List Pk)} {q : List Pk} {b c : Nat} {s : Option Addr} {T : List (TE Pk)} {w w' : World} {v : Value} (hV : Valid dim r L) (ha : a < 2 ^ dim) (hb : b' ≤ dim) (hl : L[a * (dim + 1) + b']? = some ((p1, p2, p3) :: q)) (hc : canE dim r L (a * (dim + 1) + b') = 0)
    (h : MoveQ w b dim r s c T L (a * (dim + 1) + b') (p1, p2, p3) q v w') : ChgQ w b dim r s T (doO dim r L a b') (doE dim r L a b') (doL dim r L a b') (.tuple #[v, .int .i64 0]) w' := by
  obtain ⟨T', so, co, rfl, hC, hm, hG, hP⟩ := h
  have he : doE dim r L a b' = 0 := by rw [doE_can hV ha hb hl]; exact hc
  have ho : doO dim r L a b' = movedO dim (a * (dim + 1) + b') (p1, p2, p3) := by
    unfold doO mvO; rw [if_pos he]; simp only [doN, Int.toNat_natCast, hl]
  refine ⟨s, c, T', so, co, by rw [ho, he], hC, ?_, hG, by rw [ho]; exact hP⟩
  unfold doL mvL; rw [if_pos he, hm]; simp only [doN, Int.toNat_natCast, hl]
theorem rd1_ok {dim b : Nat} {r : Int} {L : List (List Pk)} {s : Option Addr} {T : List (TE Pk)} {w w' : World} {v : Value} (h : RoundP w b dim r s T L v w') : ChgQ w b dim r s T (rdB dim r L L.length).2 0 (rdB dim r L L.length).1 (.tuple #[v, .int .i64 0]) w' := by
  obtain ⟨s', c', T', so, co, rfl, hC, hm, hG, hP⟩ := h
  exact ⟨s', c', T', so, co, rfl, hC, hm, hG, hP⟩
theorem do_out {dim : Nat} {r a b : Int} {L : List (List Pk)} (hV : Valid dim r L) (h : inB 0 ((2 ^ dim - 1 : Nat) : Int) [a] = false ∨ inB 0 (dim : Int) [b] = false) : doE dim r L a b = 7 := by
  have hp := Nat.one_le_two_pow (n := dim)
  refine doE_out hV ?_
  rcases h with h | h
  · have := not_one h; omega
  · have := not_one h; omega
theorem can_cons {dim n : Nat} {r : Int} {L : List (List Pk)} {l : List Pk} (hl : L[n]? = some l) (h : canE dim r L n = 0) : ∃ p1 p2 p3 q, l = (p1, p2, p3) :: q := by
  refine cons_ne (fun e => ?_)
  subst e
  unfold canE at h
  rw [getD_of hl, if_pos rfl] at h; omega

def onE (d r : Int) (L : List (List Pk)) (e : Int) : Int := if chkE d r L ≠ 0 then chkE d r L else e
def onC (d r : Int) (L : List (List Pk)) (e : Int) (L' : List (List Pk)) : Int × Int × List (List Pk) := if onE d r L e = 0 then (d, r, L') else (0, 0, [])
def onO (d r : Int) (L : List (List Pk)) (e : Int) (o : List Pk) : List Pk := if onE d r L e = 0 then o else []
def OnU (lo : Nat) (d r : Int) (L : List (List Pk)) (o : List Pk) (e : Int) (L' : List (List Pk)) (v : Value) (w : World) : Prop :=
  ∃ u ov, v = .tuple #[u, ov, .int .i64 (onE d r L e)] ∧ CubeR lo w u (onC d r L e L').1 (onC d r L e L').2.1 (onC d r L e L').2.2 ∧ PkR lo w ov (onO d r L e o)
theorem onU {P : Program} {f : FuncId} {args : List Value} {S : Nat → Prop} {w : World} {lo : Nat} {d r e : Int} {L L' : List (List Pk)} {o : List Pk} (h : CT P f args w S (OnQ lo d r L o e L')) : CT P f args w S (OnU lo d r L o e L') :=
  h.mono (fun _ _ h => h) fun v w' _ h => by
    rcases h with ⟨h1, rfl⟩ | ⟨h1, h2, rfl⟩ | ⟨h1, h2, u, ov, rfl, h3, h4⟩
    · have he : onE d r L e = chkE d r L := by unfold onE; rw [if_pos h1]
      exact ⟨_, _, by rw [he], by unfold onC; rw [he, if_neg h1]; exact CubeR.nil _ _, by unfold onO; rw [he, if_neg h1]; exact PkR.nil _ _⟩
    · have he : onE d r L e = e := by unfold onE; rw [if_neg (by rw [h1]; decide)]
      exact ⟨_, _, by rw [he], by unfold onC; rw [he, if_neg h2]; exact CubeR.nil _ _, by unfold onO; rw [he, if_neg h2]; exact PkR.nil _ _⟩
    · have he : onE d r L e = 0 := by unfold onE; rw [if_neg (by rw [h1]; decide)]; exact h2
      exact ⟨u, ov, by rw [he], by unfold onC; rw [he, if_pos rfl]; exact h3, by unfold onO; rw [he, if_pos rfl]; exact h4⟩
theorem put_on {d r : Int} {L : List (List Pk)} {p : Pk} : onE d r L (putE d r L p) = putE d r L p ∧ onC d r L (putE d r L p) (putL d.toNat r L p) = putC d r L p := by
  have h1 : onE d r L (putE d r L p) = putE d r L p := by
    unfold onE
    split
    · rename_i h; rw [putE_chk h]
    · rfl
  refine ⟨h1, ?_⟩
  unfold onC putC
  rw [h1]
  split
  · rename_i h
    have hc : chkE d r L = 0 := by
      by_cases hc : chkE d r L = 0
      · exact hc
      · rw [putE_chk hc] at h; exact absurd h hc
    obtain ⟨dim, rfl, hV⟩ := chk_zero hc
    unfold putL
    rw [Int.toNat_natCast, if_pos h]
  · rfl
theorem putq_of {lo : Nat} {d r : Int} {L : List (List Pk)} {p : Pk} {u : Value} {w : World} (h : CubeR lo w u (onC d r L (putE d r L p) (putL d.toNat r L p)).1 (onC d r L (putE d r L p) (putL d.toNat r L p)).2.1 (onC d r L (putE d r L p) (putL d.toNat r L p)).2.2) :
    PutQ lo d r L p (.tuple #[u, .int .i64 (onE d r L (putE d r L p))]) w := by
  rw [put_on.2] at h
  rw [put_on.1]
  exact ⟨u, rfl, h⟩
theorem do_on {d r a b : Int} {L : List (List Pk)} : onE d r L (doE d r L a b) = doE d r L a b ∧ onC d r L (doE d r L a b) (doL d.toNat r L a b) = doC d r L a b ∧ onO d r L (doE d r L a b) (doO d r L a b) = doO d r L a b := by
  have h1 : onE d r L (doE d r L a b) = doE d r L a b := by
    unfold onE
    split
    · rename_i h; rw [doE_chk h]
    · rfl
  refine ⟨h1, ?_, ?_⟩
  · unfold onC doC
    rw [h1]
    split
    · rename_i h
      have hc : chkE d r L = 0 := by
        by_cases hc : chkE d r L = 0
        · exact hc
        · rw [doE_chk hc] at h; exact absurd h hc
      obtain ⟨dim, rfl, hV⟩ := chk_zero hc
      unfold doL
      rw [Int.toNat_natCast, if_pos h]
    · rfl
  · unfold onO
    rw [h1]
    split
    · rfl
    · rename_i h; unfold doO; rw [if_neg h]
theorem doq_of {lo : Nat} {d r a b : Int} {L : List (List Pk)} {u ov : Value} {w : World} (h : CubeR lo w u (onC d r L (doE d r L a b) (doL d.toNat r L a b)).1 (onC d r L (doE d r L a b) (doL d.toNat r L a b)).2.1 (onC d r L (doE d r L a b) (doL d.toNat r L a b)).2.2) (ho : PkR lo w ov (onO d r L (doE d r L a b) (doO d r L a b))) :
    DoQ lo d r L a b (.tuple #[u, ov, .int .i64 (onE d r L (doE d r L a b))]) w := by
  rw [do_on.2.1] at h
  rw [do_on.2.2] at ho
  rw [do_on.1]
  exact ⟨u, ov, rfl, h, ho⟩
theorem rd_on {d r : Int} {L : List (List Pk)} : onE d r L 0 = chkE d r L ∧ onC d r L 0 (rdB d.toNat r L L.length).1 = rndC d r L ∧ onO d r L 0 (rdB d.toNat r L L.length).2 = rndO d r L := by
  have h1 : onE d r L 0 = chkE d r L := by
    unfold onE
    split
    · rfl
    · rename_i h; exact (Decidable.not_not.1 h).symm
  exact ⟨h1, by unfold onC rndC; rw [h1], by unfold onO rndO; rw [h1]⟩
theorem rdq_of {lo : Nat} {d r : Int} {L : List (List Pk)} {u ov : Value} {w : World} (h : CubeR lo w u (onC d r L 0 (rdB d.toNat r L L.length).1).1 (onC d r L 0 (rdB d.toNat r L L.length).1).2.1 (onC d r L 0 (rdB d.toNat r L L.length).1).2.2) (ho : PkR lo w ov (onO d r L 0 (rdB d.toNat r L L.length).2)) :
    RoundQ lo d r L (.tuple #[u, ov, .int .i64 (onE d r L 0)]) w := by
  rw [rd_on.2.1] at h
  rw [rd_on.2.2] at ho
  rw [rd_on.1]
  exact ⟨u, ov, rfl, h, ho⟩

theorem form_rep {dim : Nat} {r : Int} (hr : 1 ≤ r) : formB dim r (List.replicate ((dim + 1) * 2 ^ dim) []) = true := by
  unfold formB
  rw [decide_eq_true (by rw [List.length_replicate, Nat.mul_comm]), Bool.true_and, List.all_eq_true]
  intro n hn
  have hlt := List.mem_range.1 hn
  rw [List.length_replicate] at hlt
  have : (List.replicate ((dim + 1) * 2 ^ dim) ([] : List Pk)).getD n [] = [] := by rw [List.getD_eq_getElem?_getD, List.getElem?_replicate, if_pos hlt]; rfl
  rw [this]
  unfold bufOk
  simp; omega
theorem chk_rep {dim : Nat} {r : Int} (hd : dim ≤ 3) : chkE dim r (List.replicate ((dim + 1) * 2 ^ dim) []) = newE dim r := by
  unfold chkE newE
  by_cases h : (dim : Int) < 0 ∨ 3 < (dim : Int) ∨ r < 1 ∨ 8 < r
  · rw [if_pos h, if_pos h]
  · rw [if_neg h, if_neg h, Int.toNat_natCast, if_pos (form_rep (by omega))]
theorem many_rep (n : Nat) : manyN (List.replicate n []) = 0 := by
  unfold manyN
  induction n with
  | zero => rfl
  | succ n ih => rw [List.replicate_succ, List.map_cons, List.sum_cons, ih]; rfl
theorem bd_rep {n : Nat} (h : n ≤ 1048576) : Bd (List.replicate n []) := ⟨by rw [List.length_replicate]; exact h, by rw [many_rep]; omega⟩
theorem newp_bad {lo : Nat} {w : World} {d r e : Int} (he : e = newE d r) (hne : e ≠ 0) : NewQ lo d r (.tuple #[.agg #[.int .i64 0, .int .i64 0, .slice none 0 0], .int .i64 e]) w := by
  subst he
  exact ⟨_, rfl, by unfold newC; rw [if_neg hne]; exact CubeR.nil _ _⟩
theorem newp_ok {lo b n : Nat} {w : World} {dim : Nat} {r : Int} (h : newE dim r = 0) (hn : n = (dim + 1) * 2 ^ dim) (hB : Blk w b (List.replicate n (.slice none 0 0)) 49) (hlo : lo ≤ b) : NewQ lo dim r (.tuple #[.agg #[.int .i64 dim, .int .i64 r, .slice (some ⟨b, 0, none⟩) n n], .int .i64 0]) w := by
  refine new_ok (fun hx => ?_) (by rw [hn, Nat.mul_comm]) hB hlo
  unfold newE at h
  rw [if_pos hx] at h; omega
theorem chk_n {P : Program} {f : FuncId} {w : World} {S : Nat → Prop} {R : Value → World → Prop} {d r : Int} {s : Option Addr} {n n' c : Nat} (hn : n = n') (h : CT P f [.agg #[.int .i64 d, .int .i64 r, .slice s n' c]] w S R) : CT P f [.agg #[.int .i64 d, .int .i64 r, .slice s n c]] w S R := by subst hn; exact h
theorem newE_out {d r : Int} (h : d < 0 ∨ 3 < d) : newE d r = 3 ∧ chkE d r [] = 3 := by
  unfold newE chkE; rw [if_pos (by omega), if_pos (by omega)]; exact ⟨rfl, rfl⟩
/-- the switches of a way are those of its buffers -/
theorem spotsF_way : ∀ f s k b, s < 8 → b < 8 → f = cnt s b → (spotsF f s k b).map (fun q => ((q.1 : Nat) : Int)) = wayFrom f s b
  | 0, s, k, b, _, _, _ => rfl
  | f + 1, s, k, b, hs, hb, hf => by
    have hne : ¬ s = b := fun e => by have := (cnt_same hs hb).2 e; omega
    obtain ⟨h1, h2, h3⟩ := nxt_cnt hs hb hne
    simp only [spotsF, wayFrom, List.map_cons]
    rw [spotsF_way f (nxt s b).1 (nxt s b).2 b h1 hb (by omega)]
    congr 2
    unfold nxt; rw [if_neg hne]
theorem spots_way {a b dim : Nat} (ha : a < 8) (hb : b < 8) : (spotsL a b dim).map (fun q => ((q.1 : Nat) : Int)) = wayL a b := spotsF_way _ _ _ _ ha hb rfl
theorem way_at {a b dim i s k : Nat} (ha : a < 8) (hb : b < 8) (h : (spotsL a b dim)[i]? = some (s, k)) : (wayL a b)[i]? = some ((s : Nat) : Int) := by
  rw [← spots_way (dim := dim) ha hb, List.getElem?_map, h]; rfl
theorem way_snoc {w : World} {sl : Option Addr} {a b i c n : Nat} {x : Int} (hx : (wayL a b)[i]? = some x) (h : OwnS w 3 1 sl n c (((wayL a b).take i).flatMap intC ++ [.int .i64 x])) : OwnS w 3 1 sl n c (((wayL a b).take (i + 1)).flatMap intC) := by
  rw [List.take_add_one, hx, List.flatMap_append]; exact h
theorem spots_len {a b dim : Nat} (ha : a < 8) (hb : b < 8) : (spotsL a b dim).length = (wayL a b).length := by rw [← spots_way (dim := dim) ha hb, List.length_map]
theorem wayx_ok {w : World} {lo d a b n c : Nat} {s : Option Addr} (hd : d ≤ 3) (ha : a < 2 ^ d) (hb : b < 2 ^ d) (hn : n = (wayL a b).length) (h : OwnS w 3 1 s n c (((wayL a b).take n).flatMap intC)) (hg : ∀ k, ob s k → lo ≤ k) : WayQ lo d a b (.tuple #[.slice s n c, .int .i64 0]) w := by
  subst hn
  rw [List.take_length] at h
  exact way_ok hd ha hb ⟨s, c, rfl, h.sl (by decide) rfl (fun _ _ => rfl) (fun k hk => ⟨hg k hk, h.lt hk⟩)⟩
theorem mv_snoc {w : World} {s : Option Addr} {n c i : Nat} {l : List (Nat × Nat)} {x : Nat × Nat} (hx : l[i]? = some x) (h : OwnS w 45 2 s n c ((l.take i).flatMap mvC ++ [.int .i64 (x.1 : Nat), .int .i64 (x.2 : Nat)])) : OwnS w 45 2 s n c ((l.take (i + 1)).flatMap mvC) := by
  rw [List.take_add_one, hx, List.flatMap_append]; exact h
theorem movesx_ok {w : World} {lo dim i c n : Nat} {r : Int} {s : Option Addr} {L : List (List Pk)} (hV : Valid dim r L) (hi : i ≤ (movesL dim r L L.length).length) (hlt : ¬ (i : Int) < ((movesL dim r L L.length).length : Int)) (hn : n = i) (h : OwnS w 45 2 s n c (((movesL dim r L L.length).take i).flatMap mvC)) (hg : ∀ k, ob s k → lo ≤ k) :
    MovesQ lo dim r L (.tuple #[.slice s n c, .int .i64 0]) w := by
  subst hn
  have he : n = (movesL dim r L L.length).length := by omega
  rw [List.take_of_length_le (by omega)] at h
  refine ⟨_, by rw [hV.chk], ?_⟩
  unfold movesQ; rw [if_pos hV.chk, Int.toNat_natCast]
  subst he
  exact ⟨s, c, rfl, h.sl (by decide) rfl (fun _ _ => rfl) (fun k hk => ⟨hg k hk, h.lt hk⟩)⟩
theorem in_dim {dim : Nat} (h : dim ≤ 3) : inB 0 3 [(dim : Int)] = true := by
  unfold inB
  simp only [List.all_cons, List.all_nil, Bool.and_true, decide_eq_true_eq]; omega
theorem out_dim {d : Int} (h : d < 0 ∨ 3 < d) : inB 0 3 [d] = false := by
  unfold inB
  simp only [List.all_cons, List.all_nil, Bool.and_true]; exact decide_eq_false (by omega)

theorem any_neg {picks : List Int} {dim : Nat} {r : Int} {L : List (List Pk)} (hV : Valid dim r L) (h : ¬ (60 : Int) < (picks.length : Int)) (hz : picks.any (fun z => decide (z < 0)) = true) : runE dim r L picks = 3 := by
  rw [List.any_eq_true] at hz
  obtain ⟨z, hm, hn⟩ := hz
  obtain ⟨i, hi⟩ := List.getElem?_of_mem hm
  exact runE_neg hV h hi (of_decide_eq_true hn)
theorem all_pos {picks : List Int} (hz : picks.any (fun z => decide (z < 0)) = false) : picks.all (fun z => decide (0 ≤ z)) = true := by
  rw [List.all_eq_true]
  intro z hm
  rw [List.any_eq_false] at hz
  have := hz z hm
  simp only [decide_eq_true_eq] at this ⊢; omega
theorem many_left {dim : Nat} {L : List (List Pk)} (h : manyN L = 0) : leftN dim L L.length = 0 := by
  have key : ∀ i, leftN dim L i = 0 := fun i => by
    induction i with
    | zero => rfl
    | succ i ih =>
      have e : leftN dim L (i + 1) = leftN dim L i + leftB dim i (L.getD i []) := by unfold leftN; rw [List.range_succ]; simp
      rw [e, ih]
      cases hl : L[i]? with
      | none => rw [List.getD_eq_getElem?_getD, hl]; rfl
      | some l =>
        have := many_get hl
        have : l = [] := List.eq_nil_of_length_eq_zero (by omega)
        rw [getD_of hl, this]; rfl
  exact key _
theorem runx_ok {lo dim m : Nat} {w : World} {r : Int} {L L2 : List (List Pk)} {picks : List Int} {o : List Pk} {s : Option Addr} {n c : Nat} (hV : Valid dim r L) (h : ¬ (60 : Int) < (picks.length : Int)) (hz : picks.all (fun z => decide (0 ≤ z)) = true)
    (hr : runF dim r picks (leftN dim L2 L2.length) L2 m o = runF dim r picks (leftN dim L L.length) L 0 []) (hne : ¬ (0 : Int) < (movesL dim r L2 L2.length).length) (ho : OwnS w 41 3 s n c (o.flatMap pkC)) (hn : n = o.length) (hg : ∀ k, ob s k → lo ≤ k) :
    RunQ lo dim r L picks (.tuple #[.slice s n c, .int .i64 m, .int .i64 0]) w := run_ok hV h hz hr hne ho hn hg

theorem copyR {P : Program} {f : FuncId} {args : List Value} {S : Nat → Prop} {w : World} {lo : Nat} {d r : Int} {L : List (List Pk)} (h : CT P f args w S (fun v w' => CubeT lo w' v d r L)) : CT P f args w S (fun v w' => CubeR lo w' v d r L) :=
  h.mono (fun _ _ h => h) fun _ _ _ h => h.read

theorem many_leK (K : Nat) : ∀ {L : List (List Pk)}, (∀ l ∈ L, l.length ≤ K) → manyN L ≤ K * L.length
  | [], _ => by simp [manyN]
  | l :: L, h => by
    have h1 := h l (List.mem_cons_self ..)
    have h2 := many_leK K (L := L) (fun l hl => h l (List.mem_cons_of_mem _ hl))
    simp only [manyN, List.map_cons, List.sum_cons, List.length_cons] at *
    rw [Nat.mul_add, Nat.mul_one]; omega
theorem bd_of {L : List (List Pk)} (K : Nat) (hK : K ≤ 1000) (h1 : L.length ≤ 40) (h : ∀ l ∈ L, l.length ≤ K) : Bd L := by
  have h2 := many_leK K h
  have h3 : K * L.length ≤ 1000 * 40 := Nat.mul_le_mul hK h1
  exact ⟨by omega, by omega⟩
theorem bd_thin {L : List (List Pk)} (h : thinB L = true) : Bd L := by
  unfold thinB at h
  rw [Bool.and_eq_true, List.all_eq_true] at h
  exact bd_of 12 (by decide) (of_decide_eq_true h.1) (fun l hl => of_decide_eq_true (h.2 l hl))
theorem bd_nil : Bd [] := ⟨by simp, by simp [manyN]⟩
theorem bd_newC (d r : Int) : Bd (newC d r).2.2 := by
  unfold newC
  split
  · rename_i h
    unfold newE at h
    split at h
    · omega
    · have h32 := prod_le (dim := d.toNat) (by omega)
      exact bd_rep (by omega)
  · exact bd_nil
theorem wayR_len (d a b : Int) : (wayR d a b).length ≤ 1048576 := by
  unfold wayR
  split
  · have := way_len a.toNat b.toNat; omega
  · simp
theorem bd_putC (d r : Int) (L : List (List Pk)) (p : Pk) : Bd (putC d r L p).2.2 := by
  unfold putC
  split
  · rename_i h
    have hc : chkE d r L = 0 := by
      by_cases hc : chkE d r L = 0
      · exact hc
      · rw [putE_chk hc] at h; exact absurd h hc
    obtain ⟨dim, rfl, hV⟩ := chk_zero hc
    have h32 := prod_le hV.hd
    have hl := hV.len
    refine bd_of 9 (by decide) (by simp only [List.length_set]; omega) (fun l hm => ?_)
    rcases List.mem_or_eq_of_mem_set hm with hm | hm
    · obtain ⟨i, hi⟩ := List.getElem?_of_mem hm
      have := hV.le8 hi; omega
    · subst hm
      rw [List.length_append, List.length_singleton]
      cases hg : L[putN (dim : Int) p]? with
      | none => rw [List.getD_eq_getElem?_getD, hg]; simp
      | some x => rw [getD_of hg]; have := hV.le8 hg; omega
  · exact bd_nil
theorem bd_valid {dim : Nat} {r : Int} {L : List (List Pk)} (hV : Valid dim r L) : Bd L := hV.bd
theorem mvL_valid {dim n : Nat} {r : Int} {L : List (List Pk)} (hV : Valid dim r L) (hab : ableB dim r L n = true) : Valid dim r (mvL dim L n) := by
  obtain ⟨p, q, hp⟩ := able_some hab
  unfold mvL; rw [hp]; exact (moved_valid hV hp hab).1
theorem do_valid {d r a b : Int} {L : List (List Pk)} (h : doE d r L a b = 0) : ∃ dim : Nat, d = (dim : Int) ∧ Valid dim r L ∧ ableB dim r L (doN d a b) = true := by
  have hc : chkE d r L = 0 := by
    by_cases hc : chkE d r L = 0
    · exact hc
    · rw [doE_chk hc] at h; exact absurd h hc
  obtain ⟨dim, rfl, hV⟩ := chk_zero hc
  refine ⟨dim, rfl, hV, ?_⟩
  unfold doE at h
  rw [if_neg (by rw [hc]; decide)] at h
  split at h
  · omega
  · split at h
    · omega
    · rename_i h1 h2
      cases hab : ableB dim r L (doN dim a b) with
      | true => rfl
      | false => rw [Int.toNat_natCast] at h2; exact absurd hab h2
theorem bd_doC (d r a b : Int) (L : List (List Pk)) : Bd (doC d r L a b).2.2 := by
  unfold doC
  split
  · rename_i h
    obtain ⟨dim, rfl, hV, hab⟩ := do_valid h
    rw [Int.toNat_natCast]
    exact (mvL_valid hV hab).bd
  · exact bd_nil
theorem mvO_len (dim n : Nat) (L : List (List Pk)) : (mvO dim L n).length ≤ 1 := by
  unfold mvO; split
  · exact movedO_len _ _ _
  · simp
theorem doO_len (d r a b : Int) (L : List (List Pk)) : (doO d r L a b).length ≤ 1048576 := by
  unfold doO; split
  · have := mvO_len d.toNat (doN d a b) L; omega
  · simp
theorem movesQ_len (d r : Int) (L : List (List Pk)) : (movesQ d r L).length ≤ L.length := by
  unfold movesQ; split
  · exact moves_len _ _ _ _
  · simp
theorem runF_len (dim : Nat) (r : Int) (picks : List Int) : ∀ (f : Nat) (L : List (List Pk)) (m : Nat) (o : List Pk), (runF dim r picks f L m o).1.length ≤ o.length + f
  | 0, L, m, o => by simp [runF]
  | f + 1, L, m, o => by
    unfold runF
    split
    · simp
    · have h1 := runF_len dim r picks f (mvL dim L (pickAt dim picks (movesL dim r L L.length) m)) (m + 1) (o ++ mvO dim L (pickAt dim picks (movesL dim r L L.length) m))
      have h2 := mvO_len dim (pickAt dim picks (movesL dim r L L.length) m) L
      rw [List.length_append] at h1; omega
theorem left_le {dim : Nat} {r : Int} {L : List (List Pk)} (hV : Valid dim r L) : leftN dim L L.length ≤ 1024 := by
  have h1 := leftN_le (dim := dim) (fun n l h => hV.le8 h) (Nat.le_refl L.length)
  have h2 := prod_le hV.hd
  have h3 := hV.len
  omega
theorem runR_len (d r : Int) (L : List (List Pk)) (picks : List Int) : (runR d r L picks).1.length ≤ 1024 := by
  unfold runR
  split
  · rename_i h
    have hc : chkE d r L = 0 := by
      by_cases hc : chkE d r L = 0
      · exact hc
      · rw [runE_chk hc] at h; exact absurd h hc
    obtain ⟨dim, rfl, hV⟩ := chk_zero hc
    rw [Int.toNat_natCast]
    have h1 := runF_len dim r picks (leftN dim L L.length) L 0 []
    have h2 := left_le hV
    simp only [List.length_nil] at h1; omega
  · simp
theorem rdsF_len (dim : Nat) (r : Int) : ∀ (f : Nat) (L : List (List Pk)) (m : Nat) (o : List Pk), Valid dim r L → (rdsF dim r f L m o).1.length ≤ o.length + 32 * f
  | 0, L, m, o, _ => by simp [rdsF]
  | f + 1, L, m, o, hV => by
    unfold rdsF
    split
    · simp
    · have h1 := rdsF_len dim r f (rdB dim r L L.length).1 (m + 1) (o ++ (rdB dim r L L.length).2) (round_valid hV _)
      have h2 := (rdB_8 hV L.length).2
      have h3 := prod_le hV.hd
      have h4 := hV.len
      rw [List.length_append] at h1; omega
theorem rdsR_len (d r : Int) (L : List (List Pk)) : (rdsR d r L).1.length ≤ 1048576 := by
  unfold rdsR
  split
  · rename_i h
    obtain ⟨dim, rfl, hV⟩ := chk_zero h
    rw [Int.toNat_natCast]
    have h1 := rdsF_len dim r (leftN dim L L.length) L 0 [] hV
    have h2 := left_le hV
    simp only [List.length_nil] at h1; omega
  · simp
theorem bd_rndC (d r : Int) (L : List (List Pk)) : Bd (rndC d r L).2.2 := by
  unfold rndC
  split
  · rename_i h
    obtain ⟨dim, rfl, hV⟩ := chk_zero h
    rw [Int.toNat_natCast]
    exact (round_valid hV _).bd
  · exact bd_nil
theorem rndO_len (d r : Int) (L : List (List Pk)) : (rndO d r L).length ≤ 1048576 := by
  unfold rndO
  split
  · rename_i h
    obtain ⟨dim, rfl, hV⟩ := chk_zero h
    rw [Int.toNat_natCast]
    have h2 := (rdB_8 hV L.length).2
    have h3 := prod_le hV.hd
    have h4 := hV.len
    omega
  · simp
theorem same_true {d r : Int} {L : List (List Pk)} : decide (d = d ∧ r = r ∧ L = L) = true := decide_eq_true ⟨rfl, rfl, rfl⟩
theorem eq_true' {α : Type} [DecidableEq α] {l : List α} : decide (l = l) = true := decide_eq_true rfl
theorem int_one {x : Int} {u : Value} (hu : u ∈ intC x) : u.oneCell' = true := by
  simp only [intC, List.mem_cons, List.not_mem_nil, or_false] at hu
  subst hu; rfl
theorem ctA {P : Program} {f : FuncId} {args args' : List Value} {w : World} {S : Nat → Prop} {R : Value → World → Prop} (h : args = args') (k : CT P f args' w S R) : CT P f args w S R := by subst h; exact k

end Go.Proofs.YtlfclnkoimfhmaaDoor

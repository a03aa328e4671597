/- Plain laws of memories and pictures, and the forms in which values are read. -/
import Derived.Test.YtnhgfmbmfjmonaaGreatDoorNamesMem
import Derived.Test.YtnhgfmbmfjmonaaGreatDoorNamesMix2
import Derived.Test.YtnhgfmbmfjmonaaGreatDoorNamesStr
import Derived.Shelf.Strconv.Itoa3
import Derived.Lib.Builder
import Derived.Laws.Externs
import Derived.Lib.AppendZerosOnto
set_option maxRecDepth 100000
set_option linter.unusedVariables false
set_option linter.unusedSimpArgs false
namespace Go.Proofs.YtnhgfmbmfjmonaaGreatDoor
open Go Go.RowKit Go.Mix Go.Eng
/-! Chapter 6, with no program in sight: values, pictures, what is below what. -/
abbrev Vl := Int × Int
def num (v : Vl) : Nat := v.2.toNat
/-! ### Two pictures, one below the other -/
def relV (R : Nat → Nat → Prop) (v w : Vl) : Prop := v.1 = 0 ∨ (v.1 = 4 ∧ w.1 = 4 ∧ R (num v) (num w)) ∨ (¬ (v.1 = 4 ∧ w.1 = 4) ∧ v = w)
def relL (R : Nat → Nat → Prop) (l k : List Vl) : Prop := l.length = k.length ∧ ∀ (i : Nat) (v w : Vl), l[i]? = some v → k[i]? = some w → relV R v w
structure PB (R : Nat → Nat → Prop) : Prop where
  fn : ∀ i j j', R i j → R i j' → j = j'
  inj : ∀ i i' j, R i j → R i' j → i = i'
abbrev Pic := List Vl × List (List Vl)
def cellsAt (A : List (List Vl)) (i : Nat) : List Vl := A.getD i []
theorem relV.mono {R R' : Nat → Nat → Prop} {v w : Vl} (h : relV R v w) (hR : ∀ i j, R i j → R' i j) : relV R' v w := by
  rcases h with h | ⟨h1, h2, h3⟩ | h
  · exact .inl h
  · exact .inr (.inl ⟨h1, h2, hR _ _ h3⟩)
  · exact .inr (.inr h)
theorem relL.mono {R R' : Nat → Nat → Prop} {l k : List Vl} (h : relL R l k) (hR : ∀ i j, R i j → R' i j) : relL R' l k := ⟨h.1, fun i v w h1 h2 => (h.2 i v w h1 h2).mono hR⟩
theorem relL.nil (R : Nat → Nat → Prop) : relL R [] [] := ⟨rfl, fun i v w h => by simp at h⟩
theorem relL.cons {R : Nat → Nat → Prop} {v w : Vl} {l k : List Vl} (h : relV R v w) (t : relL R l k) : relL R (v :: l) (w :: k) := ⟨by simp [t.1], fun i x y h1 h2 => by
  cases i with
  | zero => simp at h1 h2; subst h1; subst h2; exact h
  | succ i => exact t.2 i x y (by simpa using h1) (by simpa using h2)⟩
/-! #### Depth first -/
inductive Seen | new | there | clash
def seen (L : List (Nat × Nat)) (i j : Nat) : Seen :=
  match (L.find? (fun p => decide (p.1 = i))).map (·.2), (L.find? (fun p => decide (p.2 = j))).map (·.1) with
  | none, none => .new
  | some j', some i' => if j' = j ∧ i' = i then .there else .clash
  | _, _ => .clash
def refsIn (n : Nat) (l : List Vl) : Prop := ∀ v ∈ l, v.1 = 4 → num v < n
def allIn (A : List (List Vl)) : Prop := ∀ i, refsIn A.length (cellsAt A i)
theorem refsIn.tail {n : Nat} {v : Vl} {l : List Vl} (h : refsIn n (v :: l)) : refsIn n l := fun x hx => h x (List.mem_cons_of_mem _ hx)
theorem nodup_le : ∀ (n : Nat) (l : List Nat), l.Nodup → (∀ x ∈ l, x < n) → l.length ≤ n
  | 0, l, _, h => by
    cases l with
    | nil => exact Nat.le_refl _
    | cons x l => have := h x (List.mem_cons_self ..); omega
  | n + 1, l, hd, h => by
    have h1 := nodup_le n (l.erase n) (hd.erase n) (fun x hx => by
      have h2 := (hd.mem_erase_iff).1 hx
      have := h x h2.2
      have := h2.1
      omega)
    by_cases hm : n ∈ l
    · rw [List.length_erase_of_mem hm] at h1; omega
    · rw [List.erase_of_not_mem hm] at h1; omega
/-! ### Pictures -/
/-- the place of a number in a list -/
def pos (n : Nat) : List Nat → Nat
  | [] => 0
  | x :: l => if x = n then 0 else pos n l + 1
def inB (n : Nat) (l : List Nat) : Bool := l.any (fun x => decide (x = n))
theorem inB_iff {n : Nat} {l : List Nat} : inB n l = true ↔ n ∈ l := by
  unfold inB; rw [List.any_eq_true]
  constructor
  · rintro ⟨x, hx, h⟩; rw [← of_decide_eq_true h]; exact hx
  · intro h; exact ⟨n, h, decide_eq_true rfl⟩
theorem pos_app {n : Nat} {l k : List Nat} (h : n ∈ l) : pos n (l ++ k) = pos n l := by
  induction l with
  | nil => cases h
  | cons x l ih =>
    simp only [List.cons_append, pos]
    split
    · rfl
    · rename_i hne
      rcases List.mem_cons.1 h with h | h
      · exact absurd h.symm hne
      · rw [ih h]
theorem pos_new {n : Nat} {l : List Nat} (h : n ∉ l) : pos n (l ++ [n]) = l.length := by
  induction l with
  | nil => simp [pos]
  | cons x l ih =>
    simp only [List.cons_append, pos]
    rw [if_neg (fun he => h (by rw [he]; exact List.mem_cons_self ..)), ih (fun hm => h (List.mem_cons_of_mem _ hm))]; simp
/-- the structures met, after a value is met, and after a list is -/
def met1 (O : List Nat) (v : Vl) : List Nat := if v.1 = 4 then (if inB (num v) O = true then O else O ++ [num v]) else O
def metL : List Nat → List Vl → List Nat
  | O, [] => O
  | O, v :: l => metL (met1 O v) l
/-- a value with its new number -/
def ren (O : List Nat) (v : Vl) : Vl := if v.1 = 4 then (4, (pos (num v) O : Nat)) else v
def renL : List Nat → List Vl → List Vl
  | _, [] => []
  | O, v :: l => ren (met1 O v) v :: renL (met1 O v) l
theorem met1_app (O : List Nat) (v : Vl) : ∃ x, met1 O v = O ++ x := by
  unfold met1; split
  · split
    · exact ⟨[], by simp⟩
    · exact ⟨_, rfl⟩
  · exact ⟨[], by simp⟩
theorem metL_app : ∀ (l : List Vl) (O : List Nat), ∃ x, metL O l = O ++ x
  | [], O => ⟨[], by simp [metL]⟩
  | v :: l, O => by
    obtain ⟨x, hx⟩ := met1_app O v
    obtain ⟨y, hy⟩ := metL_app l (met1 O v)
    exact ⟨x ++ y, by rw [metL, hy, hx, List.append_assoc]⟩
theorem met1_mem {O : List Nat} {v : Vl} (h : v.1 = 4) : num v ∈ met1 O v := by
  unfold met1; rw [if_pos h]; split
  · rename_i hb; exact inB_iff.1 hb
  · simp
theorem met1_nodup {O : List Nat} {v : Vl} (h : O.Nodup) : (met1 O v).Nodup := by
  unfold met1; split
  · split
    · exact h
    · rename_i hb
      rw [List.nodup_append]
      refine ⟨h, by simp, fun x hx y hy => ?_⟩
      simp at hy; subst hy
      exact fun he => hb (inB_iff.2 (by rw [← he]; exact hx))
  · exact h
theorem metL_nodup : ∀ (l : List Vl) {O : List Nat}, O.Nodup → (metL O l).Nodup
  | [], _, h => h
  | v :: l, _, h => metL_nodup l (met1_nodup h)
theorem met1_sub {O : List Nat} {v : Vl} {x : Nat} (h : x ∈ met1 O v) : x ∈ O ∨ (v.1 = 4 ∧ x = num v) := by
  unfold met1 at h; split at h
  · rename_i h4
    split at h
    · exact .inl h
    · rcases List.mem_append.1 h with h | h
      · exact .inl h
      · exact .inr ⟨h4, List.mem_singleton.1 h⟩
  · exact .inl h
theorem metL_sub : ∀ {l : List Vl} {O : List Nat} {x : Nat}, x ∈ metL O l → x ∈ O ∨ ∃ v ∈ l, v.1 = 4 ∧ x = num v
  | [], _, _, h => .inl h
  | v :: l, O, x, h => by
    rcases metL_sub (l := l) h with h | ⟨u, hu, h4, he⟩
    · rcases met1_sub h with h | ⟨h4, he⟩
      · exact .inl h
      · exact .inr ⟨v, List.mem_cons_self .., h4, he⟩
    · exact .inr ⟨u, List.mem_cons_of_mem _ hu, h4, he⟩
theorem metL_mem : ∀ {l : List Vl} {O : List Nat} {v : Vl}, v ∈ l → v.1 = 4 → num v ∈ metL O l
  | u :: l, O, v, h, h4 => by
    rcases List.mem_cons.1 h with rfl | h
    · obtain ⟨x, hx⟩ := metL_app l (met1 O v)
      rw [metL, hx]; exact List.mem_append_left _ (met1_mem h4)
    · exact metL_mem (l := l) h h4
theorem ren_app {O x : List Nat} {v : Vl} (h : v.1 = 4 → num v ∈ O) : ren (O ++ x) v = ren O v := by
  unfold ren; split
  · rename_i h4; rw [pos_app (h h4)]
  · rfl
/-- renumbering on the way is renumbering at the end -/
theorem renL_eq : ∀ (l : List Vl) (O : List Nat), renL O l = l.map (ren (metL O l))
  | [], _ => rfl
  | v :: l, O => by
    obtain ⟨x, hx⟩ := metL_app l (met1 O v)
    rw [renL, renL_eq l, List.map_cons, metL, hx, ren_app (fun h => met1_mem h)]
/-- all structures that are met, those of the list at first, from the i-th on -/
def ordF (A : List (List Vl)) : Nat → Nat → List Nat → List Nat
  | 0, _, O => O
  | f + 1, i, O => match O[i]? with
    | none => O
    | some s => ordF A f (i + 1) (metL O (cellsAt A s))
def drawC (A : List (List Vl)) : Nat → Nat → List Nat → List (List Vl)
  | 0, _, _ => []
  | f + 1, i, O => match O[i]? with
    | none => []
    | some s => renL O (cellsAt A s) :: drawC A f (i + 1) (metL O (cellsAt A s))
def fullO (A : List (List Vl)) (l : List Vl) : List Nat := ordF A (A.length + 1) 0 (metL [] l)
def drawP (A : List (List Vl)) (l : List Vl) : Pic := (renL [] l, drawC A (A.length + 1) 0 (metL [] l))
theorem ordF_app (A : List (List Vl)) : ∀ (f i : Nat) (O : List Nat), ∃ x, ordF A f i O = O ++ x
  | 0, _, O => ⟨[], by simp [ordF]⟩
  | f + 1, i, O => by
    unfold ordF
    split
    · exact ⟨[], by simp⟩
    · rename_i s _
      obtain ⟨x, hx⟩ := metL_app (cellsAt A s) O
      obtain ⟨y, hy⟩ := ordF_app A f (i + 1) (metL O (cellsAt A s))
      exact ⟨x ++ y, by rw [hy, hx, List.append_assoc]⟩
theorem ordF_nodup (A : List (List Vl)) : ∀ (f i : Nat) {O : List Nat}, O.Nodup → (ordF A f i O).Nodup
  | 0, _, _, h => h
  | f + 1, i, O, h => by
    unfold ordF
    split
    · exact h
    · exact ordF_nodup A f (i + 1) (metL_nodup _ h)
theorem metL_lt {n : Nat} {l : List Vl} {O : List Nat} (hl : refsIn n l) (hO : ∀ x ∈ O, x < n) : ∀ x ∈ metL O l, x < n := fun x hx => by
  rcases metL_sub hx with h | ⟨v, hv, h4, rfl⟩
  · exact hO x h
  · exact hl v hv h4
theorem ordF_lt {A : List (List Vl)} (hA : allIn A) : ∀ (f i : Nat) {O : List Nat}, (∀ x ∈ O, x < A.length) → ∀ x ∈ ordF A f i O, x < A.length
  | 0, _, _, h => h
  | f + 1, i, O, h => by
    unfold ordF
    split
    · exact h
    · exact ordF_lt hA f (i + 1) (metL_lt (hA _) h)
theorem drawC_eq {A : List (List Vl)} (hA : allIn A) : ∀ (f i : Nat) (O : List Nat), O.Nodup → (∀ x ∈ O, x < A.length) → A.length < f + i → i ≤ O.length →
    drawC A f i O = ((ordF A f i O).drop i).map fun s => (cellsAt A s).map (ren (ordF A f i O))
  | 0, i, O, hd, hn, hf, hi => by
    have := nodup_le _ O hd hn
    rw [drawC, ordF, List.drop_of_length_le (by omega)]; rfl
  | f + 1, i, O, hd, hn, hf, hi => by
    unfold drawC ordF
    cases hs : O[i]? with
    | none =>
      have h2 := List.getElem?_eq_none_iff.1 hs
      dsimp only
      rw [List.drop_of_length_le h2]; rfl
    | some s =>
      dsimp only
      have hil := (List.getElem?_eq_some_iff.1 hs).1
      obtain ⟨x, hx⟩ := metL_app (cellsAt A s) O
      have ih := drawC_eq hA f (i + 1) (metL O (cellsAt A s)) (metL_nodup _ hd) (metL_lt (hA _) hn) (by omega) (by rw [hx, List.length_append]; omega)
      obtain ⟨y, hy⟩ := ordF_app A f (i + 1) (metL O (cellsAt A s))
      have hget : (ordF A f (i + 1) (metL O (cellsAt A s)))[i]? = some s := by
        rw [hy, hx, List.append_assoc, List.getElem?_append_left hil]; exact hs
      obtain ⟨hlt, hgi⟩ := List.getElem?_eq_some_iff.1 hget
      rw [ih, List.drop_eq_getElem_cons hlt, hgi, List.map_cons, renL_eq]
      congr 1
      apply List.map_congr_left
      intro v hv
      rw [hy, ren_app (fun h4 => metL_mem hv h4)]
theorem fullO_nodup (A : List (List Vl)) (l : List Vl) : (fullO A l).Nodup := ordF_nodup _ _ _ (metL_nodup _ (by simp))
section
variable {A : List (List Vl)} {l : List Vl} (hA : allIn A) (hl : refsIn A.length l)
include hA hl
theorem fullO_lt : ∀ x ∈ fullO A l, x < A.length := ordF_lt hA _ _ (metL_lt hl (fun x h => by cases h))
/-- a picture is what its order makes of the memory -/
theorem drawP_eq : drawP A l = (l.map (ren (fullO A l)), (fullO A l).map fun s => (cellsAt A s).map (ren (fullO A l))) := by
  have h1 := drawC_eq hA (A.length + 1) 0 (metL [] l) (metL_nodup _ (by simp)) (metL_lt hl (fun x h => by cases h)) (by omega) (by omega)
  unfold drawP
  rw [renL_eq, h1, List.drop_zero]
  congr 1
  apply List.map_congr_left
  intro v hv
  obtain ⟨x, hx⟩ := ordF_app A (A.length + 1) 0 (metL [] l)
  show ren _ v = ren (ordF A (A.length + 1) 0 (metL [] l)) v
  rw [hx, ren_app (fun h4 => metL_mem hv h4)]
end

section
variable {r : Nat → Nat} {D : Nat → Prop} (hr : ∀ x y, D x → D y → r x = r y → x = y)
include hr
end
section
variable {A : List (List Vl)} {l : List Vl} (hA : allIn A) (hl : refsIn A.length l)
include hA hl
end

section
variable {R R' : Nat → Nat → Prop} (hR : PB R)
include hR
end
/-! #### More is greater -/
def leC (l k : List Vl) : Prop := l.length = k.length ∧ ∀ (i : Nat) (v w : Vl), l[i]? = some v → k[i]? = some w → v.1 = 0 ∨ v = w
theorem leC.refl (l : List Vl) : leC l l := ⟨rfl, fun i v w h1 h2 => .inr (by rw [h1] at h2; exact Option.some.inj h2)⟩
theorem leC.trans {l k m : List Vl} (h : leC l k) (h' : leC k m) : leC l m := ⟨h.1.trans h'.1, fun i v w h1 h2 => by
  have hi := (List.getElem?_eq_some_iff.1 h1).1
  have hk := List.getElem?_eq_getElem (l := k) (i := i) (by rw [← h.1]; exact hi)
  rcases h.2 i _ _ h1 hk with h0 | h0
  · exact .inl h0
  · rcases h'.2 i _ _ hk h2 with g0 | g0
    · exact .inl (by rw [h0]; exact g0)
    · exact .inr (h0.trans g0)⟩
/-! #### Streams -/
def strF (A : List (List Vl)) : Nat → Vl → List Int × Vl
  | 0, v => ([], v)
  | f + 1, v => match decide (v.1 = 4), cellsAt A (num v) with
    | true, [x, y] => if x.1 = 1 then (x.2 :: (strF A f y).1, (strF A f y).2) else ([], v)
    | _, _ => ([], v)
/-! ### Memories, and what is done to them -/
abbrev Rd := Int × Int
abbrev St := List Vl × List Rd
abbrev Mem := List St
abbrev Tl := Int × Vl
def isVal (v : Vl) (n : Int) : Bool :=
  if v.1 = 0 ∨ v.1 = 3 then decide (v.2 = 0)
  else if v.1 = 1 then decide (-1000000000 ≤ v.2 ∧ v.2 ≤ 1000000000)
  else if v.1 = 2 then decide (0 ≤ v.2 ∧ v.2 ≤ 1)
  else if v.1 = 4 then decide (0 ≤ v.2 ∧ v.2 < n)
  else if v.1 = 5 then decide (1 ≤ v.2 ∧ v.2 ≤ 5)
  else false
theorem isVal_ref {v : Vl} {n : Nat} (h : isVal v n = true) (h4 : v.1 = 4) : 0 ≤ v.2 ∧ num v < n := by
  unfold isVal at h
  rw [if_neg (by omega), if_neg (by omega), if_neg (by omega), if_pos h4] at h
  have := of_decide_eq_true h
  exact ⟨this.1, by unfold num; omega⟩
theorem isVal_mono {v : Vl} {n n' : Int} (h : isVal v n = true) (hn : n ≤ n') : isVal v n' = true := by
  unfold isVal at h ⊢
  split at h
  · rename_i c; rw [if_pos c]; exact h
  · rename_i c; rw [if_neg c]
    split at h
    · rename_i c; rw [if_pos c]; exact h
    · rename_i c; rw [if_neg c]
      split at h
      · rename_i c; rw [if_pos c]; exact h
      · rename_i c; rw [if_neg c]
        split at h
        · rename_i c; rw [if_pos c]; have := of_decide_eq_true h; exact decide_eq_true (by omega)
        · rename_i c; rw [if_neg c]; exact h
theorem isVal_hole (n : Int) : isVal (0, 0) n = true := by simp [isVal]
def waitB (c : List Vl) (r : Rd) : Bool := decide (0 ≤ r.1 ∧ r.1 < c.length ∧ (c.getD r.1.toNat (0, 0)).1 = 0)
def stB (n : Nat) (s : St) : Bool := decide (s.1.length ≤ 100) && s.1.all (fun v => isVal v n) && s.2.all (waitB s.1)
def waits (m : Mem) : Nat := (m.map (·.2.length)).sum
def okM (m : Mem) : Bool := decide (m.length ≤ 400) && m.all (stB m.length) && decide (waits m ≤ 6000)
theorem okM_iff {m : Mem} : okM m = true ↔ m.length ≤ 400 ∧ (∀ s ∈ m, stB m.length s = true) ∧ waits m ≤ 6000 := by
  unfold okM; rw [Bool.and_eq_true, Bool.and_eq_true, decide_eq_true_iff, decide_eq_true_iff, List.all_eq_true, and_assoc]
theorem stB_iff {n : Nat} {s : St} : stB n s = true ↔ s.1.length ≤ 100 ∧ (∀ v ∈ s.1, isVal v n = true) ∧ ∀ r ∈ s.2, waitB s.1 r = true := by
  unfold stB; rw [Bool.and_eq_true, Bool.and_eq_true, decide_eq_true_iff, List.all_eq_true, List.all_eq_true, and_assoc]
def sat (m : Mem) (i : Nat) : St := m.getD i ([], [])
theorem sat_of {m : Mem} {i : Nat} {s : St} (h : m[i]? = some s) : sat m i = s := by unfold sat; rw [List.getD_eq_getElem?_getD, h]; rfl
/-- the cells of a memory -/
def cellsOfM (m : Mem) : List (List Vl) := m.map (·.1)
theorem cellsAt_M (m : Mem) (i : Nat) : cellsAt (cellsOfM m) i = (sat m i).1 := by
  unfold cellsAt cellsOfM sat
  rw [List.getD_eq_getElem?_getD, List.getD_eq_getElem?_getD, List.getElem?_map]
  cases m[i]? <;> rfl
theorem len_M (m : Mem) : (cellsOfM m).length = m.length := by unfold cellsOfM; rw [List.length_map]
theorem allIn_M {m : Mem} (h : okM m = true) : allIn (cellsOfM m) := fun i v hv h4 => by
  rw [cellsAt_M] at hv
  rw [len_M]
  cases hs : m[i]? with
  | none => unfold sat at hv; rw [List.getD_eq_getElem?_getD, hs] at hv; cases hv
  | some s =>
    rw [sat_of hs] at hv
    exact (isVal_ref ((stB_iff.1 ((okM_iff.1 h).2.1 s (List.mem_of_getElem? hs))).2.1 v hv) h4).2
/-- a structure, and an index: is there such a cell? -/
def fitB (m : Mem) (s ix : Vl) : Bool := decide (s.1 = 4 ∧ ix.1 = 1 ∧ 0 ≤ ix.2 ∧ ix.2 < (sat m (num s)).1.length)
structure Op where
  kind : Int
  v : Vl
  ix : Vl
  val : Vl
  rd : Int
/-- the error, the memory, what it gives, who is told what -/
abbrev Out := Int × Mem × Vl × List Tl
def allocR (m : Mem) (z : Vl) : Out :=
  if z.1 = 5 then (0, m, z, [])
  else if z.1 ≠ 1 then (0, m, (5, 5), [])
  else if ¬ (0 ≤ z.2 ∧ z.2 ≤ 100) then (0, m, (5, 4), [])
  else if m.length = 400 then (5, [], (0, 0), [])
  else (0, m ++ [(List.replicate z.2.toNat (0, 0), [])], (4, (m.length : Nat)), [])
def cellR (m : Mem) (s ix : Vl) : Vl := (sat m (num s)).1.getD (num ix) (0, 0)
def writeR (m : Mem) (s ix x : Vl) : Out :=
  if fitB m s ix = true then
    if (cellR m s ix).1 ≠ 0 then (6, [], (0, 0), [])
    else (0, m.set (num s) ((sat m (num s)).1.set (num ix) x, (sat m (num s)).2.filter fun r => decide (r.1 ≠ ix.2)), (3, 0), ((sat m (num s)).2.filter fun r => decide (r.1 = ix.2)).map fun r => (r.2, x))
  else (0, m, (3, 0), [])
def readR (m : Mem) (s ix : Vl) (rd : Int) : Out :=
  if fitB m s ix = true then
    if (cellR m s ix).1 ≠ 0 then (0, m, cellR m s ix, [])
    else if 6000 ≤ waits m then (5, [], (0, 0), [])
    else (0, m.set (num s) ((sat m (num s)).1, (sat m (num s)).2 ++ [(ix.2, rd)]), (0, 0), [])
  else if s.1 = 5 then (0, m, s, [])
  else if ix.1 = 5 then (0, m, ix, [])
  else if s.1 = 3 ∨ (s.1 = 4 ∧ ix.1 = 1) then (0, m, (5, 3), [])
  else (0, m, (5, 5), [])
def sizeR (m : Mem) (s : Vl) : Vl := if s.1 = 4 then (1, ((sat m (num s)).1.length : Nat)) else if s.1 = 5 then s else (5, 5)
def thereB (m : Mem) (v : Vl) : Bool := decide (v.1 ≠ 0) && isVal v m.length
def argsB (m : Mem) (o : Op) : Bool :=
  decide (1 ≤ o.kind ∧ o.kind ≤ 4) && thereB m o.v && (decide (o.kind ≠ 2 ∧ o.kind ≠ 3) || thereB m o.ix) && (decide (o.kind ≠ 2) || thereB m o.val)
def doR (m : Mem) (o : Op) : Out :=
  if argsB m o = true then
    if o.kind = 1 then allocR m o.v
    else if o.kind = 2 then writeR m o.v o.ix o.val
    else if o.kind = 3 then readR m o.v o.ix o.rd
    else (0, m, sizeR m o.v, [])
  else (2, [], (0, 0), [])
def DoR (m : Mem) (o : Op) : Out := if okM m = true then doR m o else (4, [], (0, 0), [])
/-- the memory, what each gave, who was told what, and the error -/
def playF : Mem → List Op → List Vl → List Tl → Mem × List Vl × List Tl × Int
  | m, [], g, t => (m, g, t, 0)
  | m, o :: l, g, t => if (doR m o).1 = 0 then playF (doR m o).2.1 l (g ++ [(doR m o).2.2.1]) (t ++ (doR m o).2.2.2) else (m, g, t, (doR m o).1)
theorem waits_app (m k : Mem) : waits (m ++ k) = waits m + waits k := by unfold waits; rw [List.map_append, List.sum_append]
theorem waits_set {m : Mem} {i : Nat} {s x : St} (h : m[i]? = some s) : waits (m.set i x) + s.2.length = waits m + x.2.length := by
  induction m generalizing i with
  | nil => simp at h
  | cons y m ih =>
    cases i with
    | zero =>
      simp only [List.getElem?_cons_zero, Option.some.injEq] at h; subst h
      simp only [List.set_cons_zero, waits, List.map_cons, List.sum_cons]; omega
    | succ i =>
      simp only [List.getElem?_cons_succ] at h
      have := ih h
      simp only [List.set_cons_succ, waits, List.map_cons, List.sum_cons] at this ⊢; omega
theorem fit_at {m : Mem} {s ix : Vl} (h : fitB m s ix = true) : ∃ x, m[num s]? = some x ∧ sat m (num s) = x ∧ num ix < x.1.length ∧ (num ix : Int) = ix.2 ∧ s.1 = 4 ∧ ix.1 = 1 := by
  have := of_decide_eq_true h
  cases hs : m[num s]? with
  | none => unfold sat at this; rw [List.getD_eq_getElem?_getD, hs] at this; simp at this; omega
  | some x =>
    rw [sat_of hs] at this
    exact ⟨x, rfl, sat_of hs, by unfold num; omega, by unfold num; omega, this.1, this.2.1⟩
theorem okM_set {m : Mem} {i : Nat} {s x : St} (h : okM m = true) (hs : m[i]? = some s) (hx : stB m.length x = true) (hw : waits m + x.2.length ≤ 6000 + s.2.length) : okM (m.set i x) = true := by
  obtain ⟨h1, h2, h3⟩ := okM_iff.1 h
  refine okM_iff.2 ⟨by rw [List.length_set]; exact h1, fun y hy => ?_, by have := waits_set (x := x) hs; omega⟩
  rw [List.length_set]
  rcases List.mem_or_eq_of_mem_set hy with hy | rfl
  · exact h2 y hy
  · exact hx
theorem filter_len {l : List Rd} (p : Rd → Bool) : (l.filter p).length ≤ l.length := List.length_filter_le ..
/-- what is done leaves a right memory -/
theorem write_ok {m : Mem} {s ix x : Vl} (h : okM m = true) (hx : isVal x m.length = true) (h0 : (writeR m s ix x).1 = 0) : okM (writeR m s ix x).2.1 = true ∧ (writeR m s ix x).2.1.length = m.length := by
  unfold writeR at h0 ⊢
  split
  · rename_i hf
    rw [if_pos hf] at h0
    split
    · rename_i hc; rw [if_pos hc] at h0; cases h0
    · rename_i hc
      obtain ⟨y, hy, hy2, hlt, hnum, h4, h1⟩ := fit_at hf
      have hyB := stB_iff.1 ((okM_iff.1 h).2.1 y (List.mem_of_getElem? hy))
      refine ⟨okM_set h hy (stB_iff.2 ⟨by rw [hy2, List.length_set]; exact hyB.1, fun v hv => ?_, fun r hr => ?_⟩) ?_, by simp⟩
      · rw [hy2] at hv
        rcases List.mem_or_eq_of_mem_set hv with hv | rfl
        · exact hyB.2.1 v hv
        · exact hx
      · rw [hy2] at hr ⊢
        obtain ⟨hr1, hr2⟩ := List.mem_filter.1 hr
        have hne := of_decide_eq_true hr2
        have hw := of_decide_eq_true (hyB.2.2 r hr1)
        refine decide_eq_true ⟨hw.1, by rw [List.length_set]; exact hw.2.1, ?_⟩
        rw [List.getD_eq_getElem?_getD, List.getElem?_set_ne (by unfold num; omega), ← List.getD_eq_getElem?_getD]; exact hw.2.2
      · rw [hy2]
        have := filter_len (l := y.2) fun r => decide (r.1 ≠ ix.2)
        have := (okM_iff.1 h).2.2
        dsimp only; omega
  · exact ⟨h, rfl⟩
theorem read_ok {m : Mem} {s ix : Vl} {rd : Int} (h : okM m = true) (h0 : (readR m s ix rd).1 = 0) : okM (readR m s ix rd).2.1 = true ∧ (readR m s ix rd).2.1.length = m.length := by
  unfold readR at h0 ⊢
  split
  · rename_i hf
    rw [if_pos hf] at h0
    split
    · exact ⟨h, rfl⟩
    · rename_i hc
      rw [if_neg hc] at h0
      split
      · rename_i hw; rw [if_pos hw] at h0; cases h0
      · rename_i hw
        obtain ⟨y, hy, hy2, hlt, hnum, h4, h1⟩ := fit_at hf
        have hyB := stB_iff.1 ((okM_iff.1 h).2.1 y (List.mem_of_getElem? hy))
        refine ⟨okM_set h hy (stB_iff.2 ⟨by rw [hy2]; exact hyB.1, fun v hv => ?_, fun r hr => ?_⟩) ?_, by simp⟩
        · rw [hy2] at hv; exact hyB.2.1 v hv
        · rw [hy2] at hr ⊢
          rcases List.mem_append.1 hr with hr | hr
          · exact hyB.2.2 r hr
          · have hr := List.mem_singleton.1 hr
            subst hr
            have hc' : (cellR m s ix).1 = 0 := Decidable.byContradiction hc
            unfold cellR at hc'
            rw [hy2] at hc'
            exact decide_eq_true ⟨by dsimp only; omega, by dsimp only; omega, hc'⟩
        · rw [hy2]; simp only [List.length_append, List.length_singleton]; omega
  · repeat' (first | exact ⟨h, rfl⟩ | split)
theorem alloc_ok {m : Mem} {z : Vl} (h : okM m = true) (h0 : (allocR m z).1 = 0) : okM (allocR m z).2.1 = true ∧ m.length ≤ (allocR m z).2.1.length := by
  unfold allocR at h0 ⊢
  split
  · exact ⟨h, Nat.le_refl _⟩
  · rename_i c1; rw [if_neg c1] at h0
    split
    · exact ⟨h, Nat.le_refl _⟩
    · rename_i c2; rw [if_neg c2] at h0
      split
      · exact ⟨h, Nat.le_refl _⟩
      · rename_i c3; rw [if_neg c3] at h0
        split
        · rename_i c4; rw [if_pos c4] at h0; cases h0
        · rename_i c4
          obtain ⟨h1, h2, h3⟩ := okM_iff.1 h
          refine ⟨okM_iff.2 ⟨by simp; omega, fun s hs => ?_, by rw [waits_app]; simp [waits] at h3 ⊢; exact h3⟩, by simp⟩
          rw [List.length_append, List.length_singleton]
          rcases List.mem_append.1 hs with hs | hs
          · obtain ⟨g1, g2, g3⟩ := stB_iff.1 (h2 s hs)
            exact stB_iff.2 ⟨g1, fun v hv => isVal_mono (g2 v hv) (by omega), g3⟩
          · have hs := List.mem_singleton.1 hs
            subst hs
            refine stB_iff.2 ⟨by simp; omega, fun v hv => ?_, fun r hr => by cases hr⟩
            rw [(List.mem_replicate.1 hv).2]; exact isVal_hole _
theorem do_ok {m : Mem} {o : Op} (h : okM m = true) (h0 : (doR m o).1 = 0) : okM (doR m o).2.1 = true ∧ m.length ≤ (doR m o).2.1.length := by
  unfold doR at h0 ⊢
  split
  · rename_i ha
    rw [if_pos ha] at h0
    split
    · rename_i c; rw [if_pos c] at h0; exact alloc_ok h h0
    · rename_i c; rw [if_neg c] at h0
      split
      · rename_i c2; rw [if_pos c2] at h0
        unfold argsB at ha
        rw [Bool.and_eq_true, Bool.or_eq_true] at ha
        have hx : isVal o.val m.length = true := by
          rcases ha.2 with hh | hh
          · exact absurd c2 (of_decide_eq_true hh)
          · unfold thereB at hh; rw [Bool.and_eq_true] at hh; exact hh.2
        have := write_ok h hx h0
        exact ⟨this.1, by omega⟩
      · rename_i c2; rw [if_neg c2] at h0
        split
        · rename_i c3; rw [if_pos c3] at h0; have := read_ok h h0; exact ⟨this.1, by omega⟩
        · exact ⟨h, Nat.le_refl _⟩
  · rename_i ha; rw [if_neg ha] at h0; cases h0
/-! ### Storms -/
def szN (i : Nat) : Nat := if i = 0 then 3 else if i = 1 then 1 else if i = 2 then 0 else 4
def wrB (s c : Nat) (o : Op) : Bool := decide (o.kind = 2 ∧ num o.v = s ∧ num o.ix = c)
/-- what is written to a cell -/
def wrL (l : List Op) (s c : Nat) : Option Vl := (l.find? (wrB s c)).map (·.val)
/-- a read that waits -/
def waitsB (l : List Op) (i : Nat) (o : Op) : Bool := decide (o.kind = 3 ∧ num o.v = i ∧ num o.ix < szN i) && (wrL l i (num o.ix)).isNone
def waitsL (l : List Op) (i : Nat) : List Rd := (l.filter (waitsB l i)).map fun o => (o.ix.2, o.rd)
def cellsL (l : List Op) (i : Nat) : List Vl := (List.range (szN i)).map fun c => (wrL l i c).getD (0, 0)
def memF (l : List Op) : Mem := (List.range 4).map fun i => (cellsL l i, waitsL l i)
/-- what a reader heard; a hole if nothing -/
def outF (ev : List Tl) (r : Nat) : Vl := ((ev.find? fun e => decide (e.1 = (r : Int))).map (·.2)).getD (0, 0)
/-! ### Operations -/
def arity (k : Nat) : Nat := if k = 5 ∨ k = 9 then 1 else 2
def kindB (k : Nat) (x : Int) : Bool := if k = 8 then decide (x = 1 ∨ x = 2) else if k = 9 then decide (x = 2) else decide (x = 1)
def sizedV (n : Int) : Vl := if -1000000000 ≤ n ∧ n ≤ 1000000000 then (1, n) else (5, 2)
def truthV (b : Bool) : Vl := (2, if b = true then 1 else 0)
def workV (k : Nat) (a b : Int) : Vl :=
  if k = 0 then sizedV (a + b) else if k = 1 then sizedV (a - b) else if k = 2 then sizedV (a * b)
  else if k = 3 then (if b = 0 then (5, 1) else sizedV (a.tdiv b)) else if k = 4 then (if b = 0 then (5, 1) else sizedV (a.tmod b))
  else if k = 5 then sizedV (-a) else if k = 6 then truthV (decide (a < b)) else if k = 7 then truthV (decide (a ≤ b)) else if k = 8 then truthV (decide (a = b)) else truthV (decide (a = 0))
def holeB (v : Vl) : Bool := decide (v.1 = 0)
def badB (v : Vl) : Bool := decide (v.1 = 5)
def lastV (l : List Vl) : Vl := l.getLastD (0, 0)
def primV (k : Nat) (l : List Vl) : Vl :=
  if l.any holeB = true then (0, 0)
  else match l.find? badB with
    | some v => v
    | none => if (l.headD (0, 0)).1 = (lastV l).1 ∧ kindB k (l.headD (0, 0)).1 = true then workV k (l.headD (0, 0)).2 (lastV l).2 else (5, 5)
/-- a value of any memory -/
def isValA (v : Vl) : Bool := if v.1 = 4 then decide (0 ≤ v.2) else isVal v 0
theorem isValA_int {v : Vl} (h : isValA v = true) (h1 : v.1 = 1) : -1000000000 ≤ v.2 ∧ v.2 ≤ 1000000000 := by
  unfold isValA at h
  rw [if_neg (by omega)] at h
  unfold isVal at h
  rw [if_neg (by omega), if_pos h1] at h
  exact of_decide_eq_true h
theorem abs_tdiv (a b : Int) (h : -1000000000 ≤ a ∧ a ≤ 1000000000) : -1000000000 ≤ a.tdiv b ∧ a.tdiv b ≤ 1000000000 := by
  have h1 : (a.tdiv b).natAbs ≤ a.natAbs := by rw [Int.natAbs_tdiv]; exact Nat.div_le_self ..
  omega
theorem abs_tmod (a b : Int) (h : -1000000000 ≤ a ∧ a ≤ 1000000000) : -1000000000 ≤ a.tmod b ∧ a.tmod b ≤ 1000000000 := by
  have h1 : (a.tmod b).natAbs ≤ a.natAbs := by rw [Int.natAbs_tmod]; exact Nat.mod_le ..
  omega
theorem leC.cons {v w : Vl} {l k : List Vl} (h : v.1 = 0 ∨ v = w) (t : leC l k) : leC (v :: l) (w :: k) := ⟨by simp [t.1], fun i x y h1 h2 => by
  cases i with
  | zero => simp at h1 h2; subst h1; subst h2; exact h
  | succ i => exact t.2 i x y (by simpa using h1) (by simpa using h2)⟩
/-! ### Streams that are built -/
def restV (base k n : Nat) (e : Vl) : Vl := if k < n then (4, ((base + k : Nat) : Int)) else e
def builtS (base n : Nat) (e : Vl) : Nat → List Int → List (List Vl)
  | _, [] => []
  | k, x :: l => [(1, x), restV base (k + 1) n e] :: builtS base n e (k + 1) l
def endV (b : Bool) : Vl := if b = true then (3, 0) else (0, 0)
def buildF : Nat → List (List Int) → List Bool → List (List Vl) × List Vl
  | _, [], _ => ([], [])
  | base, x :: l, c => (builtS base x.length (endV (c.headD false)) 0 x ++ (buildF (base + x.length) l c.tail).1, restV base 0 x.length (endV (c.headD false)) :: (buildF (base + x.length) l c.tail).2)
theorem builtS_len (base n : Nat) (e : Vl) : ∀ (l : List Int) (k : Nat), (builtS base n e k l).length = l.length
  | [], _ => rfl
  | x :: l, k => by rw [builtS, List.length_cons, List.length_cons, builtS_len base n e l]
theorem buildF_len : ∀ (l : List (List Int)) (base : Nat) (c : List Bool), (buildF base l c).1.length = (l.map List.length).sum ∧ (buildF base l c).2.length = l.length
  | [], _, _ => ⟨rfl, rfl⟩
  | x :: l, base, c => by
    have ih := buildF_len l (base + x.length) c.tail
    simp only [buildF, List.length_append, List.length_cons, List.map_cons, List.sum_cons, builtS_len, ih.1, ih.2, and_self]
/-! How values of chapter 6 lie in memory. -/
def vlC (v : Vl) : List Value := [.int .u8 v.1, .int .i64 v.2]
def rdC (r : Rd) : List Value := [.int .i64 r.1, .int .i64 r.2]
def tlC (t : Tl) : List Value := [.int .i64 t.1, .int .u8 t.2.1, .int .i64 t.2.2]
abbrev VlS (F : Nat → Prop) (w : World) (s : Option Addr) (l : List Vl) : Prop := Sl F w s 2 l (Fl vlC)
abbrev RdS (F : Nat → Prop) (w : World) (s : Option Addr) (l : List Rd) : Prop := Sl F w s 2 l (Fl rdC)
abbrev TlS (F : Nat → Prop) (w : World) (s : Option Addr) (l : List Tl) : Prop := Sl F w s 3 l (Fl tlC)
/-- lists of cells -/
abbrev VvS (F : Nat → Prop) (w : World) (s : Option Addr) (L : List (List Vl)) : Prop := Sl F w s 1 L (SlC F 2 (Fl vlC))
/-- a structure, in two cells -/
abbrev StC (F : Nat → Prop) : World → Nat → Nat → St → Prop := CC F 2 (Fl vlC) 2 (Fl rdC)
abbrev MemS (F : Nat → Prop) (w : World) (s : Option Addr) (m : Mem) : Prop := Sl F w s 2 m (StC F)
theorem vl_stab (F : Nat → Prop) : Stab F (Fl vlC) := Fl.stab F vlC
theorem rd_stab (F : Nat → Prop) : Stab F (Fl rdC) := Fl.stab F rdC
theorem tl_stab (F : Nat → Prop) : Stab F (Fl tlC) := Fl.stab F tlC
theorem int_stab (F : Nat → Prop) : Stab F (Fl intC) := Fl.stab F intC
theorem vv_stab (F : Nat → Prop) : Stab F (SlC F 2 (Fl vlC)) := SlC.stab (vl_stab F)
theorem st_stab (F : Nat → Prop) : Stab F (StC F) := CC.stab (vl_stab F) (rd_stab F)
theorem vl_one {x : Vl} {u : Value} (hu : u ∈ vlC x) : u.oneCell' = true := by
  simp only [vlC, List.mem_cons, List.not_mem_nil, or_false] at hu
  rcases hu with rfl | rfl <;> rfl
theorem rd_one {x : Rd} {u : Value} (hu : u ∈ rdC x) : u.oneCell' = true := by
  simp only [rdC, List.mem_cons, List.not_mem_nil, or_false] at hu
  rcases hu with rfl | rfl <;> rfl
theorem int_one {x : Int} {u : Value} (hu : u ∈ intC x) : u.oneCell' = true := by
  simp only [intC, List.mem_cons, List.not_mem_nil, or_false] at hu
  subst hu; rfl
theorem getx {α : Type} {l : List α} {i : Nat} (h : (i : Int) < (l.length : Int)) : ∃ x, l[i]? = some x := ⟨_, List.getElem?_eq_getElem (by omega)⟩
section eqs
variable {α : Type} {a b : List α} {i : Nat} {x y : α}
theorem eqs_step (h : a.take i = b.take i) (hx : a[i]? = some x) (hy : b[i]? = some y) (e : x = y) : a.take (i + 1) = b.take (i + 1) := by
  rw [List.take_add_one, List.take_add_one, h, hx, hy, e]
theorem eqs_end (h : a.take i = b.take i) (hl : a.length = b.length) (hi : ¬ (i : Int) < (a.length : Int)) : a = b := by
  rwa [List.take_of_length_le (by omega), List.take_of_length_le (by omega)] at h
theorem eqs_ne (hx : a[i]? = some x) (hy : b[i]? = some y) (hne : ¬ x = y) : ¬ a = b := fun e => hne (by subst e; rw [hx] at hy; exact Option.some.inj hy)
end eqs
theorem no_dec {q : Prop} [Decidable q] (h : ¬ q) : Value.bool false = .bool (decide q) := by rw [decide_eq_false h]
theorem yes_dec {q : Prop} [Decidable q] (h : q) : Value.bool true = .bool (decide q) := by rw [decide_eq_true h]
theorem len_ne {α : Type} {a b : List α} (h : ((a.length : Nat) : Int) ≠ (b.length : Int)) : ¬ a = b := fun e => h (by rw [e])
theorem vl_ne {x y : Vl} (h : ¬ (x.1 = y.1 ∧ x.2 = y.2)) : ¬ x = y := fun e => h (by subst e; exact ⟨rfl, rfl⟩)
theorem vl_eq {x y : Vl} (h : ¬ ¬ (x.1 = y.1 ∧ x.2 = y.2)) : x = y := by
  have := Decidable.not_not.1 h
  exact Prod.ext this.1 this.2
theorem tl_ne {x y : Tl} (h : ¬ (x.1 = y.1 ∧ x.2.1 = y.2.1 ∧ x.2.2 = y.2.2)) : ¬ x = y := fun e => h (by subst e; exact ⟨rfl, rfl, rfl⟩)
theorem tl_eq {x y : Tl} (h : ¬ ¬ (x.1 = y.1 ∧ x.2.1 = y.2.1 ∧ x.2.2 = y.2.2)) : x = y := by
  have := Decidable.not_not.1 h
  exact Prod.ext this.1 (Prod.ext this.2.1 this.2.2)
theorem all_step {α : Type} {p : α → Bool} {L : List α} {i : Nat} {l : α} (h : (L.take i).all p = true) (hl : L[i]? = some l) (hp : p l = true) : (L.take (i + 1)).all p = true := by
  rw [List.take_add_one, List.all_append, h, hl]; simp [hp]
theorem all_end {α : Type} {p : α → Bool} {L : List α} {i : Nat} (h : (L.take i).all p = true) (hi : ¬ (i : Int) < (L.length : Int)) : L.all p = true := by
  rwa [List.take_of_length_le (by omega)] at h
theorem any_step {α : Type} {p : α → Bool} {L : List α} {i : Nat} {l : α} (h : (L.take i).any p = false) (hl : L[i]? = some l) (hp : p l = false) : (L.take (i + 1)).any p = false := by
  rw [List.take_add_one, List.any_append, h, hl]; simp [hp]
theorem any_end {α : Type} {p : α → Bool} {L : List α} {i : Nat} (h : (L.take i).any p = false) (hi : ¬ (i : Int) < (L.length : Int)) : L.any p = false := by
  rwa [List.take_of_length_le (by omega)] at h
theorem any_yes {α : Type} {p : α → Bool} {L : List α} {i : Nat} {l : α} (hl : L[i]? = some l) (hp : p l = true) : L.any p = true := List.any_eq_true.2 ⟨l, List.mem_of_getElem? hl, hp⟩
theorem win_t {n a b : Int} (h : a ≤ n) : Value.bool (decide (n ≤ b)) = .bool (decide (a ≤ n ∧ n ≤ b)) := by congr 1; rw [decide_eq_decide]; exact ⟨fun g => ⟨h, g⟩, fun g => g.2⟩
theorem win_f {n a b : Int} (h : ¬ a ≤ n) : Value.bool false = .bool (decide (a ≤ n ∧ n ≤ b)) := no_dec fun g => h g.1
section vals
variable {k n m : Int}
theorem val_zero (h : k = 0 ∨ k = 3) : Value.bool (decide (n = 0)) = .bool (isVal (k, n) m) := by unfold isVal; rw [if_pos h]
theorem val_int (h : k = 1) : Value.bool (decide (-1000000000 ≤ n ∧ n ≤ 1000000000)) = .bool (isVal (k, n) m) := by unfold isVal; rw [if_neg (by dsimp only; omega), if_pos h]
theorem val_bool (h : k = 2) : Value.bool (decide (0 ≤ n ∧ n ≤ 1)) = .bool (isVal (k, n) m) := by unfold isVal; rw [if_neg (by dsimp only; omega), if_neg (by dsimp only; omega), if_pos h]
theorem val_ref (h : k = 4) : Value.bool (decide (0 ≤ n ∧ n ≤ m - 1)) = .bool (isVal (k, n) m) := by
  unfold isVal; rw [if_neg (by dsimp only; omega), if_neg (by dsimp only; omega), if_neg (by dsimp only; omega), if_pos h]
  congr 1; rw [decide_eq_decide]; dsimp only; omega
theorem val_bad (h : k = 5) : Value.bool (decide (1 ≤ n ∧ n ≤ 5)) = .bool (isVal (k, n) m) := by
  unfold isVal; rw [if_neg (by dsimp only; omega), if_neg (by dsimp only; omega), if_neg (by dsimp only; omega), if_neg (by dsimp only; omega), if_pos h]
theorem val_no (h : ¬ k = 0 ∧ ¬ k = 3 ∧ ¬ k = 1 ∧ ¬ k = 2 ∧ ¬ k = 4 ∧ ¬ k = 5) : Value.bool false = .bool (isVal (k, n) m) := by
  unfold isVal; rw [if_neg (by dsimp only; omega), if_neg (by dsimp only; omega), if_neg (by dsimp only; omega), if_neg (by dsimp only; omega), if_neg (by dsimp only; omega)]
end vals
section vals
variable {k n m : Int}
end vals
theorem there_t {k n m : Int} (h : ¬ k = 0) : Value.bool (isVal (k, n) m) = .bool (decide (k ≠ 0) && isVal (k, n) m) := by rw [decide_eq_true h]; rfl
theorem there_f {k n m : Int} (h : k = 0) : Value.bool false = .bool (decide (k ≠ 0) && isVal (k, n) m) := by rw [decide_eq_false (fun g => g h)]; rfl
/-- lengths that are counted -/
def Bm (m : Mem) : Prop := m.length ≤ 1048576 ∧ (∀ s ∈ m, s.1.length ≤ 1048576 ∧ s.2.length ≤ 1048576) ∧ waits m ≤ 1048576
theorem Bm.get {m : Mem} {i : Nat} {s : St} (h : Bm m) (hs : m[i]? = some s) : s.1.length ≤ 1048576 ∧ s.2.length ≤ 1048576 := h.2.1 s (List.mem_of_getElem? hs)
/-- slices of our own of two types lie apart -/
theorem own_types {w : World} {e e' : TypeId} {sz sz' n n' c c' : Nat} {s s' : Option Addr} {xs xs' : List Value} (h : OwnS w e sz s n c xs) (h' : OwnS w e' sz' s' n' c' xs') (he : e ≠ e') : ∀ k, ob s k → ¬ ob s' k := fun k ⟨o, sp, hs⟩ ⟨o', sp', hs'⟩ => by
  rcases h.2 with ⟨h0, _⟩ | ⟨g, o1, cur, h0, hB, _⟩
  · rw [h0] at hs; cases hs
  · rcases h'.2 with ⟨h0', _⟩ | ⟨g', o1', cur', h0', hB', _⟩
    · rw [h0'] at hs'; cases hs'
    · rw [h0] at hs; rw [h0'] at hs'
      injection hs with hs; injection hs with a1 _
      injection hs' with hs'; injection hs' with a1' _
      subst a1; subst a1'
      unfold Blk at hB hB'
      rw [hB] at hB'
      injection hB' with hB'
      injection hB' with _ ht _
      exact he ht
/-- a memory of our own; one to be read -/
def MemT (lo : Nat) (w : World) (v : Value) (m : Mem) : Prop :=
  ∃ (s : Option Addr) (c : Nat) (T : List (SE Vl Rd)), v = .agg #[.slice s T.length c] ∧ T.map SE.abs = m ∧ MTab w 65 36 2 vlC 115 2 rdC s c T ∧ ∀ k, mtb s T k → lo ≤ k
def MemR (lo : Nat) (w : World) (v : Value) (m : Mem) : Prop := ∃ (s : Option Addr) (c : Nat), v = .agg #[.slice s m.length c] ∧ MemS (Iv lo w.heap.size) w s m
theorem MTab.readM {w : World} {s : Option Addr} {c : Nat} {T : List (SE Vl Rd)} (h : MTab w 65 36 2 vlC 115 2 rdC s c T) {F : Nat → Prop} (hF : ∀ k, mtb s T k → F k) : MemS F w s (T.map SE.abs) :=
  h.read (by decide) (fun _ => rfl) (by decide) (fun _ => rfl) hF
theorem MemT.read {lo : Nat} {w : World} {v : Value} {m : Mem} (h : MemT lo w v m) : MemR lo w v m := by
  obtain ⟨s, c, T, rfl, rfl, hT, hg⟩ := h
  exact ⟨s, c, by simp, MTab.readM hT (fun k hk => ⟨hg k hk, hT.lt hk⟩)⟩
theorem mtab_step {T : List (SE Vl Rd)} {m : Mem} {i : Nat} {x : St} {e : SE Vl Rd} (hT : T.map SE.abs = m.take i) (hx : m[i]? = some x) (he : e.abs = x) : (T ++ [e]).map SE.abs = m.take (i + 1) := by
  rw [List.map_append, hT, List.take_add_one, hx, List.map_cons, he]; rfl
theorem memT_of {w : World} {lo i c : Nat} {s : Option Addr} {T : List (SE Vl Rd)} {m : Mem} (h : MTab w 65 36 2 vlC 115 2 rdC s c T) (hT : T.map SE.abs = m.take i) (hi : m.length ≤ i) (hg : ∀ k, mtb s T k → lo ≤ k) :
    MemT lo w (.agg #[.slice s T.length c]) m := ⟨s, c, T, rfl, by rw [hT, List.take_of_length_le hi], h, hg⟩
/-- a picture to be read -/
def PicR (lo : Nat) (w : World) (v : Value) (p : Pic) : Prop :=
  ∃ (s : Option Addr) (c : Nat) (s' : Option Addr) (c' : Nat), v = .agg #[.slice s p.1.length c, .slice s' p.2.length c'] ∧ VlS (Iv lo w.heap.size) w s p.1 ∧ VvS (Iv lo w.heap.size) w s' p.2
def Bp (p : Pic) : Prop := p.1.length ≤ 1048576 ∧ p.2.length ≤ 1048576 ∧ ∀ l ∈ p.2, l.length ≤ 1048576
theorem Bp.get {p : Pic} {i : Nat} {l : List Vl} (h : Bp p) (hl : p.2[i]? = some l) : l.length ≤ 1048576 := h.2.2 l (List.mem_of_getElem? hl)
theorem own_vl {w : World} {lo n c : Nat} {s : Option Addr} {l : List Vl} (h : OwnS w 36 2 s n c (l.flatMap vlC)) (hg : ∀ k, ob s k → lo ≤ k) : VlS (Iv lo w.heap.size) w s l :=
  h.sl (by decide) rfl (fun _ _ => rfl) (fun k hk => ⟨hg k hk, h.lt hk⟩)
theorem tab_step {T : List (TE Vl)} {L : List (List Vl)} {i : Nat} {l : List Vl} {e : TE Vl} (hT : T.map (·.2.2) = L.take i) (hl : L[i]? = some l) (he : e.2.2 = l) : (T ++ [e]).map (·.2.2) = L.take (i + 1) := by
  rw [List.map_append, hT, List.take_add_one, hl, List.map_cons, he]; rfl
theorem picR_of {w : World} {lo i n c c' : Nat} {s s' : Option Addr} {p : Pic} {T : List (TE Vl)} (h : OwnS w 36 2 s n c (p.1.flatMap vlC)) (hg : ∀ k, ob s k → lo ≤ k) (hT : Tab w 30 36 2 vlC s' c' T) (hm : T.map (·.2.2) = p.2.take i) (hi : p.2.length ≤ i) (hg' : ∀ k, tb s' T k → lo ≤ k) :
    PicR lo w (.agg #[.slice s p.1.length c, .slice s' T.length c']) p := by
  rw [List.take_of_length_le hi] at hm
  have hl : T.length = p.2.length := by rw [← hm, List.length_map]
  exact ⟨s, c, s', c', by rw [hl], own_vl h hg, by rw [← hm]; exact hT.read (by decide) (fun _ => rfl) (fun k hk => ⟨hg' k hk, hT.lt hk⟩)⟩
theorem rd_ne {x y : Rd} (h : ¬ (x.1 = y.1 ∧ x.2 = y.2)) : ¬ x = y := fun e => h (by subst e; exact ⟨rfl, rfl⟩)
theorem rd_eq {x y : Rd} (h : ¬ ¬ (x.1 = y.1 ∧ x.2 = y.2)) : x = y := by
  have := Decidable.not_not.1 h
  exact Prod.ext this.1 this.2
theorem st_eq {x y : St} (h1 : x.1 = y.1) (h2 : x.2 = y.2) : x = y := Prod.ext h1 h2
theorem waits_step {m : Mem} {i : Nat} {x : St} (hx : m[i]? = some x) : waits (m.take (i + 1)) = waits (m.take i) + x.2.length := by
  rw [List.take_add_one, waits_app, hx]; simp [waits]
theorem waits_le (m : Mem) (i : Nat) : waits (m.take i) ≤ waits m := by
  conv => rhs; rw [← List.take_append_drop i m, waits_app]
  omega
/-! The error of a memory; its parts. -/
def chkE (m : Mem) : Int := if okM m = true then 0 else 4
theorem chk_0 {m : Mem} (h : ¬ chkE m ≠ 0) : okM m = true := by
  unfold chkE at h
  by_cases g : okM m = true
  · exact g
  · rw [if_neg g] at h; exact absurd (by decide) h
theorem chk_4 {m : Mem} (h : chkE m ≠ 0) : okM m = false ∧ chkE m = 4 := by
  unfold chkE at h ⊢
  by_cases g : okM m = true
  · rw [if_pos g] at h; exact absurd rfl h
  · rw [if_neg g]; exact ⟨by simpa using g, rfl⟩
theorem stB_len {n : Nat} {x : St} (h : (100 : Int) < (x.1.length : Int)) : ¬ stB n x = true := fun g => by have := (stB_iff.1 g).1; omega
theorem stB_val {n : Nat} {x : St} (h : (x.1.all fun v => isVal v n) = false) : ¬ stB n x = true := fun g => by
  have := List.all_eq_true.2 (stB_iff.1 g).2.1
  rw [this] at h; cases h
theorem waitB_at {c : List Vl} {r : Rd} {u : Vl} (hr : 0 ≤ r.1) (hu : c[r.1.toNat]? = some u) : waitB c r = decide (u.1 = 0) := by
  have hl := (List.getElem?_eq_some_iff.1 hu).1
  unfold waitB
  rw [List.getD_eq_getElem?_getD, hu, decide_eq_decide]
  simp only [Option.getD_some]
  omega
theorem waitB_out {c : List Vl} {r : Rd} (h : ¬ (0 ≤ r.1 ∧ r.1 ≤ (c.length : Int) - 1)) : ¬ waitB c r = true := fun g => by
  have := of_decide_eq_true g; omega
/-- the memory of lists of cells -/
def memC (L : List (List Vl)) : Mem := L.map fun l => (l, [])
theorem memC_step {T : List (SE Vl Rd)} {L : List (List Vl)} {i : Nat} {l : List Vl} {e : SE Vl Rd} (hT : T.map SE.abs = memC (L.take i)) (hl : L[i]? = some l) (he : e.abs = (l, [])) : (T ++ [e]).map SE.abs = memC (L.take (i + 1)) := by
  rw [List.map_append, hT, List.take_add_one, hl]; unfold memC; rw [List.map_append, List.map_cons, he]; rfl
theorem memC_of {w : World} {lo i c : Nat} {s : Option Addr} {T : List (SE Vl Rd)} {L : List (List Vl)} (h : MTab w 65 36 2 vlC 115 2 rdC s c T) (hT : T.map SE.abs = memC (L.take i)) (hi : L.length ≤ i) (hg : ∀ k, mtb s T k → lo ≤ k) :
    MemT lo w (.agg #[.slice s T.length c]) (memC L) := ⟨s, c, T, rfl, by rw [hT, List.take_of_length_le hi], h, hg⟩

/-! What is done to a memory, part by part. -/
def vlV (x : Vl) : Value := .agg #[.int .u8 x.1, .int .i64 x.2]
theorem siz_5 {m : Mem} {z : Vl} (h : z.1 = 5) : Value.agg #[.int .u8 z.1, .int .i64 z.2] = vlV (sizeR m z) := by
  unfold sizeR; rw [if_neg (by omega), if_pos h]; rfl
theorem siz_4 {m : Mem} {z : Vl} {x : St} (h : z.1 = 4) (hx : m[num z]? = some x) : Value.agg #[.int .u8 1, .int .i64 ((x.1.length : Nat) : Int)] = vlV (sizeR m z) := by
  unfold sizeR; rw [if_pos h, sat_of hx]; rfl
theorem siz_no {m : Mem} {z : Vl} (h5 : ¬ z.1 = 5) (h4 : ¬ z.1 = 4) : Value.agg #[.int .u8 5, .int .i64 5] = vlV (sizeR m z) := by
  unfold sizeR; rw [if_neg h4, if_neg h5]; rfl
theorem MemS.wide {F F' : Nat → Prop} {w : World} {s : Option Addr} {m : Mem} (h : MemS F w s m) (hF : ∀ k, F k → F' k) : MemS F' w s m := fun i x hx => by
  obtain ⟨b, o, e, hb, s1, c1, s2, c2, h1, h2, h3, h4⟩ := h i x hx
  refine ⟨b, o, e, hF b hb, s1, c1, s2, c2, h1, h2, fun j y hy => ?_, fun j y hy => ?_⟩
  · obtain ⟨b', o', e', hb', h'⟩ := h3 j y hy; exact ⟨b', o', e', hF b' hb', h'⟩
  · obtain ⟨b', o', e', hb', h'⟩ := h4 j y hy; exact ⟨b', o', e', hF b' hb', h'⟩
section alloc
variable {G : Nat → Prop} {lo : Nat} {w : World} {m : Mem} {z : Vl} {vm : Value}
end alloc
/-- a new list of holes -/
def holesN (n : Nat) : List Vl := List.replicate n (0, 0)
theorem holes_own {w : World} {b n : Nat} (h : Blk w b ((List.replicate n [Value.int .u8 0, .int .i64 0]).flatten) 36) (hn : n ≤ 100) : OwnS w 36 2 (some ⟨b, 0, none⟩) (holesN n).length n ((holesN n).flatMap vlC) := by
  have e : (holesN n).flatMap vlC = (List.replicate n [Value.int .u8 0, .int .i64 0]).flatten := by
    unfold holesN; rw [List.flatMap_def, List.map_replicate]; rfl
  have el : (holesN n).length = n := List.length_replicate
  rw [e, el]
  exact OwnS.full h (by rw [flatten_len (sz := 2) rfl]) (Nat.le_trans hn (by decide))
theorem al_tab {T : List (SE Vl Rd)} {m : Mem} {e : SE Vl Rd} {x : St} (hT : T.map SE.abs = m) (he : e.abs = x) : (T ++ [e]).map SE.abs = m ++ [x] := by
  rw [List.map_append, hT, List.map_cons, he]; rfl
theorem mtab_at {T : List (SE Vl Rd)} {m : Mem} {i : Nat} {x : St} (hT : T.map SE.abs = m) (hx : m[i]? = some x) : ∃ sA cA sB cB, T[i]? = some ((sA, cA, x.1), (sB, cB, x.2)) := by
  subst hT
  rw [List.getElem?_map] at hx
  cases he : T[i]? with
  | none => rw [he] at hx; cases hx
  | some e => rw [he] at hx; cases hx; obtain ⟨⟨sA, cA, lA⟩, ⟨sB, cB, lB⟩⟩ := e; exact ⟨sA, cA, sB, cB, rfl⟩
theorem mtab_set {T : List (SE Vl Rd)} {m : Mem} {i : Nat} {e : SE Vl Rd} {x : St} (hT : T.map SE.abs = m) (he : e.abs = x) : (T.set i e).map SE.abs = m.set i x := by
  rw [List.map_set, hT, he]
section read
variable {G : Nat → Prop} {lo : Nat} {w : World} {m : Mem} {s ix : Vl} {rd : Int} {x : St} {vm : Value}
theorem rd_of (hf : fitB m s ix = false) : readR m s ix rd = if s.1 = 5 then (0, m, s, []) else if ix.1 = 5 then (0, m, ix, []) else if s.1 = 3 ∨ (s.1 = 4 ∧ ix.1 = 1) then (0, m, (5, 3), []) else (0, m, (5, 5), []) := by
  unfold readR; rw [if_neg (by rw [hf]; exact Bool.false_ne_true)]
theorem cell_of {u : Vl} (hx : sat m (num s) = x) (hu : x.1[num ix]? = some u) : cellR m s ix = u := by
  unfold cellR; rw [hx, List.getD_eq_getElem?_getD, hu]; rfl
end read
theorem flat_setV {l : List Vl} {y : Vl} : ∀ {i : Nat}, i < l.length → (l.set i y).flatMap vlC = (l.flatMap vlC).take (i * 2) ++ vlC y ++ (l.flatMap vlC).drop (i * 2 + 2) := by
  induction l with
  | nil => intro i h; simp at h
  | cons z l ih =>
    intro i h
    cases i with
    | zero => simp [vlC]
    | succ i =>
      have e1 : (i + 1) * 2 = i * 2 + 2 := by omega
      rw [List.set_cons_succ, List.flatMap_cons, ih (by simpa using h), List.flatMap_cons]
      simp only [vlC, e1, List.cons_append, List.nil_append, List.take_succ_cons, List.drop_succ_cons]
theorem rd_cell {w : World} {b o c i : Nat} {s : Option Addr} {l : List Rd} {r : Rd} (h : OwnS w 115 2 s l.length c (l.flatMap rdC)) (hs : s = some ⟨b, o, none⟩) (hr : l[i]? = some r) (j : Nat) (v : Value) (hv : (rdC r)[j]? = some v) : w.cell? ⟨b, o + i * 2 + j, none⟩ = some v := by
  subst hs
  obtain ⟨b', o', h1, _, h3⟩ := h.sl (by decide) (l := l) (cells := rdC) rfl (fun _ _ => rfl) (F := fun _ => True) (fun _ _ => trivial) i r hr
  injection h1 with h1; injection h1 with a1 a2; subst a1; subst a2
  exact h3 j v hv
theorem own_more {α : Type} {w : World} {e : TypeId} {sz c : Nat} {s : Option Addr} {l : List α} {f : α → List Value} {a : α} {us : List Value} (h : OwnS w e sz s (l.length + 1) c (l.flatMap f ++ us)) (hu : f a = us) : OwnS w e sz s (l ++ [a]).length c ((l ++ [a]).flatMap f) := by
  rw [List.length_append, List.flatMap_append]; subst hu; simpa using h
/-- who is told, and who still waits -/
def toldW (L : List Rd) (k : Int) (y : Vl) (i : Nat) : List Tl := ((L.take i).filter fun r => decide (r.1 = k)).map fun r => (r.2, y)
def restW (L : List Rd) (k : Int) (i : Nat) : List Rd := (L.take i).filter fun r => decide (r.1 ≠ k)
section told
variable {L : List Rd} {k : Int} {y : Vl} {i : Nat} {r : Rd}
theorem toldW_y (hr : L[i]? = some r) (h : r.1 = k) : toldW L k y (i + 1) = toldW L k y i ++ [(r.2, y)] := by
  unfold toldW; rw [List.take_add_one, hr]; simp [h]
theorem toldW_n (hr : L[i]? = some r) (h : ¬ r.1 = k) : toldW L k y (i + 1) = toldW L k y i := by
  unfold toldW; rw [List.take_add_one, hr]; simp [h]
theorem restW_y (hr : L[i]? = some r) (h : ¬ r.1 = k) : restW L k (i + 1) = restW L k i ++ [r] := by
  unfold restW; rw [List.take_add_one, hr]; simp [h]
theorem restW_n (hr : L[i]? = some r) (h : r.1 = k) : restW L k (i + 1) = restW L k i := by
  unfold restW; rw [List.take_add_one, hr]; simp [h]
theorem toldW_len (L : List Rd) (k : Int) (y : Vl) (i : Nat) : (toldW L k y i).length ≤ i := by
  unfold toldW; rw [List.length_map]; exact Nat.le_trans (List.length_filter_le ..) (by rw [List.length_take]; exact Nat.min_le_left ..)
theorem restW_len (L : List Rd) (k : Int) (i : Nat) : (restW L k i).length ≤ i := by
  unfold restW; exact Nat.le_trans (List.length_filter_le ..) (by rw [List.length_take]; exact Nat.min_le_left ..)
theorem toldW_all (h : ¬ (i : Int) < (L.length : Int)) : toldW L k y i = (L.filter fun r => decide (r.1 = k)).map fun r => (r.2, y) := by unfold toldW; rw [List.take_of_length_le (by omega)]
theorem restW_all (h : ¬ (i : Int) < (L.length : Int)) : restW L k i = L.filter fun r => decide (r.1 ≠ k) := by unfold restW; rw [List.take_of_length_le (by omega)]
end told
theorem own_tl {w : World} {lo n c : Nat} {s : Option Addr} {l : List Tl} (h : OwnS w 106 3 s n c (l.flatMap tlC)) (hg : ∀ k, ob s k → lo ≤ k) : TlS (Iv lo w.heap.size) w s l :=
  h.sl (by decide) rfl (fun _ _ => rfl) (fun k hk => ⟨hg k hk, h.lt hk⟩)
section write
variable {G : Nat → Prop} {lo c ct : Nat} {w : World} {m : Mem} {s ix y : Vl} {x : St} {vm : Value} {st : Option Addr}
end write
theorem mtab_set2 {T : List (SE Vl Rd)} {m : Mem} {i : Nat} {e e' : SE Vl Rd} {x : St} (hT : T.map SE.abs = m) (he : e'.abs = x) : ((T.set i e).set i e').map SE.abs = m.set i x := by
  rw [List.set_set]; exact mtab_set hT he
theorem len_waits {m : Mem} {x : St} (h : x ∈ m) : x.2.length ≤ waits m := by
  unfold waits
  induction m with
  | nil => cases h
  | cons y m ih =>
    rw [List.map_cons, List.sum_cons]
    rcases List.mem_cons.1 h with rfl | h
    · omega
    · have := ih h; omega
theorem okM_Bm {m : Mem} (h : okM m = true) : Bm m := by
  obtain ⟨h1, h2, h3⟩ := okM_iff.1 h
  exact ⟨by omega, fun s hs => ⟨by have := (stB_iff.1 (h2 s hs)).1; omega, by have := len_waits hs; omega⟩, by omega⟩
section does
variable {m : Mem} {o : Op}
theorem there_ref {v : Vl} (h : (decide (v.1 ≠ 0) && isVal v m.length) = true) (h4 : v.1 = 4) : 0 ≤ v.2 ∧ num v < m.length := by
  rw [Bool.and_eq_true] at h; exact isVal_ref h.2 h4
theorem args_in (h : ¬ (1 ≤ o.kind ∧ o.kind ≤ 4)) : argsB m o = false := by unfold argsB; rw [decide_eq_false h]; rfl
theorem do_1 (ha : argsB m o = true) (h : o.kind = 1) : doR m o = allocR m o.v := by unfold doR; rw [if_pos ha, if_pos h]
theorem do_2 (ha : argsB m o = true) (h : o.kind = 2) : doR m o = writeR m o.v o.ix o.val := by unfold doR; rw [if_pos ha, if_neg (by omega), if_pos h]
theorem do_3 (ha : argsB m o = true) (h : o.kind = 3) : doR m o = readR m o.v o.ix o.rd := by unfold doR; rw [if_pos ha, if_neg (by omega), if_neg (by omega), if_pos h]
theorem do_4 (ha : argsB m o = true) (h1 : ¬ o.kind = 1) (h2 : ¬ o.kind = 2) (h3 : ¬ o.kind = 3) : doR m o = (0, m, sizeR m o.v, []) := by unfold doR; rw [if_pos ha, if_neg h1, if_neg h2, if_neg h3]
theorem do_err (h : (doR m o).1 ≠ 0) : (doR m o).2 = ([], (0, 0), []) := by
  unfold doR at h ⊢
  unfold allocR writeR readR at *
  repeat' (first | rfl | (exfalso; exact h rfl) | split at h)
  all_goals (simp_all)
theorem alloc_told (z : Vl) : (allocR m z).2.2.2 = [] := by unfold allocR; repeat' (first | rfl | split)
theorem read_told' (s ix : Vl) (rd : Int) : (readR m s ix rd).2.2.2 = [] := by unfold readR; repeat' (first | rfl | split)
end does
def OutD (lo : Nat) (w : World) (v : Value) (r : Out) : Prop := ∃ s n c st ct, v = .tuple #[.agg #[.slice s n c], vlV r.2.2.1, .slice st r.2.2.2.length ct, .int .i64 r.1] ∧ n = r.2.1.length ∧ MemS (Iv lo w.heap.size) w s r.2.1 ∧ TlS (Iv lo w.heap.size) w st r.2.2.2
section outd
variable {lo : Nat} {w : World} {m : Mem} {o : Op}
theorem outD_e {e : Int} (h : DoR m o = (e, [], (0, 0), [])) (he : e ≠ 0) : OutD lo w (.tuple #[.agg #[.slice none 0 0], .agg #[.int .u8 0, .int .i64 0], .slice none 0 0, .int .i64 e]) (DoR m o) := by
  rw [h]; exact ⟨none, 0, 0, none, 0, rfl, rfl, fun i x hx => by simp at hx, fun i x hx => by simp at hx⟩
theorem outD_chk (h : chkE m ≠ 0) : OutD lo w (.tuple #[.agg #[.slice none 0 0], .agg #[.int .u8 0, .int .i64 0], .slice none 0 0, .int .i64 (chkE m)]) (DoR m o) := by
  obtain ⟨h1, h2⟩ := chk_4 h
  refine outD_e ?_ h
  unfold DoR; rw [h1, h2]; rfl
theorem DoR_ok (h : okM m = true) : DoR m o = doR m o := by unfold DoR; rw [if_pos h]
theorem outD_err (h : okM m = true) (he : (doR m o).1 ≠ 0) : OutD lo w (.tuple #[.agg #[.slice none 0 0], .agg #[.int .u8 0, .int .i64 0], .slice none 0 0, .int .i64 (doR m o).1]) (DoR m o) := by
  refine outD_e ?_ he
  rw [DoR_ok h, ← do_err he]
theorem outD_ok {sC st : Option Addr} {cC nt ct lo' : Nat} {TC : List (SE Vl Rd)} {vg : Value} (h : okM m = true) (h0 : (doR m o).1 = 0) (hT : TC.map SE.abs = (doR m o).2.1) (hTab : MTab w 65 36 2 vlC 115 2 rdC sC cC TC) (hg : ∀ k, mtb sC TC k → lo' ≤ k) (hlo : lo ≤ lo')
    (hv : vg = vlV (doR m o).2.2.1) (hn : nt = (doR m o).2.2.2.length) (ht : TlS (Iv lo w.heap.size) w st (doR m o).2.2.2) : OutD lo w (.tuple #[.agg #[.slice sC TC.length cC], vg, .slice st nt ct, .int .i64 0]) (DoR m o) := by
  rw [DoR_ok h]
  subst hv; subst hn
  refine ⟨sC, _, cC, st, ct, by rw [h0], by rw [← hT, List.length_map], ?_, ht⟩
  rw [← hT]; exact MTab.readM hTab (fun k hk => ⟨Nat.le_trans hlo (hg k hk), hTab.lt hk⟩)
end outd
section thinp
variable {p : Pic} {i : Nat} {l : List Vl}
end thinp

/-! Rows of operations, and a row of them that is done. -/
def opC (o : Op) : List Value := [.int .u8 o.kind, .int .u8 o.v.1, .int .i64 o.v.2, .int .u8 o.ix.1, .int .i64 o.ix.2, .int .u8 o.val.1, .int .i64 o.val.2, .int .i64 o.rd]
abbrev OpS (F : Nat → Prop) (w : World) (s : Option Addr) (l : List Op) : Prop := Sl F w s 8 l (Fl opC)
theorem op_stab (F : Nat → Prop) : Stab F (Fl opC) := Fl.stab F opC
def tget (v : Value) (i : Nat) : Value := match v with | .tuple xs => xs.getD i undef | _ => undef
def aget (v : Value) (i : Nat) : Value := match v with | .agg xs => xs.getD i undef | _ => undef
def sad (v : Value) : Option Addr := match v with | .slice s _ _ => s | _ => none
def sln (v : Value) : Nat := match v with | .slice _ n _ => n | _ => 0
def scp (v : Value) : Nat := match v with | .slice _ _ c => c | _ => 0
/-- what a step gives, its blocks born between lo and hi -/
def OutDI (I : Nat × Nat) (w : World) (v : Value) (r : Out) : Prop := ∃ s n c st ct, v = .tuple #[.agg #[.slice s n c], vlV r.2.2.1, .slice st r.2.2.2.length ct, .int .i64 r.1] ∧ n = r.2.1.length ∧ MemS (Iv I.1 I.2) w s r.2.1 ∧ TlS (Iv I.1 I.2) w st r.2.2.2
theorem OutD.in {lo : Nat} {w : World} {v : Value} {r : Out} (h : OutD lo w v r) : OutDI (lo, w.heap.size) w v r := h
theorem OutDI.fr {I : Nat × Nat} {w w' : World} {v : Value} {r : Out} {S : Nat → Prop} (h : OutDI I w v r) (hf : Fr S w w') (hS : ∀ k, I.1 ≤ k ∧ k < I.2 → ¬ S k) : OutDI I w' v r := by
  obtain ⟨s, n, c, st, ct, h1, h2⟩ := h
  exact ⟨s, n, c, st, ct, h1, h2.1, h2.2.1.fr (st_stab _) hf hS, h2.2.2.fr (tl_stab _) hf hS⟩
/-- as long as all goes well -/
def playR (m : Mem) (l : List Op) : Mem × List Vl × List Tl × Int := if okM m = true then playF m l [] [] else ([], [], [], 4)
theorem playF_on {m : Mem} {l : List Op} {i : Nat} {o : Op} {g : List Vl} {t : List Tl} (ho : l[i]? = some o) (h : (doR m o).1 = 0) : playF m (l.drop i) g t = playF (doR m o).2.1 (l.drop (i + 1)) (g ++ [(doR m o).2.2.1]) (t ++ (doR m o).2.2.2) := by
  have e : l.drop i = o :: l.drop (i + 1) := by
    obtain ⟨hlt, he⟩ := List.getElem?_eq_some_iff.1 ho
    rw [← he]; exact List.drop_eq_getElem_cons hlt
  rw [e]; show (if (doR m o).1 = 0 then _ else _) = _; rw [if_pos h]
theorem playF_err {m : Mem} {l : List Op} {i : Nat} {o : Op} {g : List Vl} {t : List Tl} (ho : l[i]? = some o) (h : ¬ (doR m o).1 = 0) : playF m (l.drop i) g t = (m, g, t, (doR m o).1) := by
  have e : l.drop i = o :: l.drop (i + 1) := by
    obtain ⟨hlt, he⟩ := List.getElem?_eq_some_iff.1 ho
    rw [← he]; exact List.drop_eq_getElem_cons hlt
  rw [e]; unfold playF; rw [if_neg h]
theorem playF_end {m : Mem} {l : List Op} {i : Nat} {g : List Vl} {t : List Tl} (h : ¬ (i : Int) < (l.length : Int)) : playF m (l.drop i) g t = (m, g, t, 0) := by
  rw [List.drop_eq_nil_of_le (by omega)]; rfl
theorem told_le {m : Mem} {o : Op} (h : okM m = true) : (doR m o).2.2.2.length ≤ 6000 := by
  have hw := (okM_iff.1 h).2.2
  have key : (writeR m o.v o.ix o.val).2.2.2.length ≤ waits m := by
    unfold writeR
    split
    · rename_i hf
      split
      · exact Nat.zero_le _
      · obtain ⟨x, hx, hsx, _⟩ := fit_at hf
        rw [List.length_map, hsx]
        exact Nat.le_trans (List.length_filter_le ..) (len_waits (List.mem_of_getElem? hx))
    · exact Nat.zero_le _
  unfold doR
  split
  · split
    · rw [alloc_told]; exact Nat.zero_le _
    · split
      · omega
      · split
        · rw [read_told']; exact Nat.zero_le _
        · exact Nat.zero_le _
  · exact Nat.zero_le _
/-- what a row of operations gives -/
def OutP (G : Nat → Prop) (lo : Nat) (w : World) (v : Value) (r : Mem × List Vl × List Tl × Int) : Prop := ∃ s n c sg cg st ct, v = .tuple #[.agg #[.slice s n c], .slice sg r.2.1.length cg, .slice st r.2.2.1.length ct, .int .i64 (r.2.1.length : Nat), .int .i64 r.2.2.2] ∧
  n = r.1.length ∧ MemS (fun k => (G k ∨ lo ≤ k) ∧ k < w.heap.size) w s r.1 ∧ VlS (Iv lo w.heap.size) w sg r.2.1 ∧ TlS (Iv lo w.heap.size) w st r.2.2.1
section outp
variable {G : Nat → Prop} {lo : Nat} {w : World} {m : Mem} {l : List Op}
theorem outP_chk (h : chkE m ≠ 0) : OutP G lo w (.tuple #[.agg #[.slice none 0 0], .slice none 0 0, .slice none 0 0, .int .i64 0, .int .i64 (chkE m)]) (playR m l) := by
  obtain ⟨h1, h2⟩ := chk_4 h
  unfold playR
  rw [if_neg (by rw [h1]; exact Bool.false_ne_true), h2]
  exact ⟨none, 0, 0, none, 0, none, 0, rfl, rfl, fun i x hx => by simp at hx, fun i x hx => by simp at hx, fun i x hx => by simp at hx⟩
theorem outP_of {mM : Mem} {gM : List Vl} {tM : List Tl} {e : Int} {i ng nt : Nat} {s sg st : Option Addr} {c cg ct n : Nat} (hok : okM m = true) (hp : playF m l [] [] = (mM, gM, tM, e)) (hi : i = gM.length) (hn : n = mM.length) (hng : ng = gM.length) (hnt : nt = tM.length)
    (h1 : MemS (fun k => (G k ∨ lo ≤ k) ∧ k < w.heap.size) w s mM) (h2 : VlS (Iv lo w.heap.size) w sg gM) (h3 : TlS (Iv lo w.heap.size) w st tM) : OutP G lo w (.tuple #[.agg #[.slice s n c], .slice sg ng cg, .slice st nt ct, .int .i64 (i : Nat), .int .i64 e]) (playR m l) := by
  unfold playR
  rw [if_pos hok, hp]
  subst hi; subst hn; subst hng; subst hnt
  exact ⟨s, _, c, sg, cg, st, ct, rfl, rfl, h1, h2, h3⟩
end outp

/-! Operations by their names. -/
def nameL : List ByteArray := [⟨#[97, 100, 100]⟩, ⟨#[115, 117, 98]⟩, ⟨#[109, 117, 108]⟩, ⟨#[100, 105, 118]⟩, ⟨#[109, 111, 100]⟩, ⟨#[110, 101, 103]⟩, ⟨#[108, 116]⟩, ⟨#[108, 101]⟩, ⟨#[101, 113]⟩, ⟨#[110, 111, 116]⟩]
theorem tr_t {b : Bool} (h : b = true) : Value.agg #[.int .u8 2, .int .i64 1] = vlV (truthV b) := by subst h; rfl
theorem tr_f {b : Bool} (h : b = false) : Value.agg #[.int .u8 2, .int .i64 0] = vlV (truthV b) := by subst h; rfl
section ar
variable {nm x : ByteArray} {i : Nat}
end ar

/-! More operations: pointers held against nil, cells copied over cells that are the same. -/
section ops
variable {P : Program} {N : Nat} {ρ : Nat → Value} {w w' : World} {d : Option Tmp} {t : TypeId} {p : String} {a : Array Edge} {g : Option (Nat × Bool)}
variable {x y : Operand} {T Ty E : TypeId} {s : Option Addr}
theorem eq_ptr (ht : P.underlying T = some (.pointer E)) : (Op.equal T (.pointer s) (.pointer none)).run P w = .ok s.isNone w := by
  show (Op.equalIn (9999 + 1) T (.pointer s) (.pointer none)).run P w = _
  unfold Op.equalIn
  rw [Sem.run_bind, run_underlying ht]
  cases s <;> simp only [Result.andThen_ok, Sem.run_pure] <;> rfl
theorem rn_eqlP (ht : P.underlying T = some (.pointer E)) (hx : ev N ρ x = .pointer s) (hy : ev N ρ y = .pointer none) :
    Rn P N ⟨d, .binOp .eql T x y Ty, t, p, a, g⟩ ρ w (.bool s.isNone) w :=
  ⟨fun _ h => (by cases h), by
    have he : (eqGuard .eql T x y (.pointer s) (.pointer none)).run P w = .ok () w := by unfold eqGuard; simp
    have hb : binOp .eql T (.pointer s) (.pointer none) = (do pure (.bool (← Op.equal T (.pointer s) (.pointer none)))) := by unfold binOp; rfl
    simp only [execOp, hx, hy, Sem.run_bind, he, Result.andThen_ok, hb, eq_ptr ht, Sem.run_pure]⟩
theorem rn_neqP (ht : P.underlying T = some (.pointer E)) (hx : ev N ρ x = .pointer s) (hy : ev N ρ y = .pointer none) :
    Rn P N ⟨d, .binOp .neq T x y Ty, t, p, a, g⟩ ρ w (.bool (!s.isNone)) w :=
  ⟨fun _ h => (by cases h), by
    have he : (eqGuard .neq T x y (.pointer s) (.pointer none)).run P w = .ok () w := by unfold eqGuard; simp
    have hb : binOp .neq T (.pointer s) (.pointer none) = (do pure (.bool (!(← Op.equal T (.pointer s) (.pointer none))))) := by unfold binOp; rfl
    simp only [execOp, hx, hy, Sem.run_bind, he, Result.andThen_ok, hb, eq_ptr ht, Sem.run_pure]⟩
/-- what is copied stands there already: nothing turns -/
theorem rn_copySame {sT e : TypeId} {b o b2 o2 n m c c2 k size : Nat} {cs cs' : List Value} {T' : TypeId} (ht : P.underlying T = some (.slice e)) (hs : ∀ w, (sizeOf e).run P w = .ok size w)
    (hx : ev N ρ x = .slice (some ⟨b, o, none⟩) n c) (hy : ev N ρ y = .slice (some ⟨b2, o2, none⟩) m c2) (hk : k = Nat.min m n) (B : Blk w b cs T') (hl : cs'.length = k * size) (hd : (cs.drop o).take (k * size) = cs') (ho : o ≤ cs.length)
    (hsrc : ∀ j v, cs'[j]? = some v → w.cell? ⟨b2, o2 + j, none⟩ = some v) (h1 : cs'.all (fun u => u.oneCell') = true) :
    Rn P N ⟨d, .call { callee := .builtin .copy, args := #[x, y], argTypes := #[T, sT] }, t, p, a, g⟩ ρ w (.int .i64 (k : Int)) w :=
  ⟨fun _ h => (by cases h), by
    subst hk
    have hload := run_loadCells_list (P := P) w ⟨b2, o2, none⟩ cs' (fun j v hv => by
      have hadd : (⟨b2, o2, none⟩ : Addr).add j = ⟨b2, o2 + j, none⟩ := by unfold Addr.add; split <;> simp_all
      rw [hadd]; exact hsrc j v hv)
    have hcs : cs.take o ++ cs' ++ cs.drop (o + cs'.length) = cs := by
      conv => rhs; rw [← List.take_append_drop o cs, ← List.take_append_drop (Nat.min m n * size) (cs.drop o), hd, List.drop_drop, ← List.append_assoc]
      rw [hl]
    have hfit : o + cs'.length ≤ cs.toArray.size := by
      have := congrArg List.length hcs
      simp only [List.length_append, List.length_take, List.length_drop] at this
      simp only [List.size_toArray]; omega
    have hst := run_storeCells_at P b o T' cs' 0 cs.toArray w B (by simpa using hfit) (fun v hv => List.all_eq_true.1 h1 v hv)
    rw [Nat.add_zero, List.toList_toArray, hcs, setRow_self w b cs.toArray T' (0, 0) B] at hst
    rw [hl] at hload
    simp [execOp, resolve, hx, hy, Builtin.copy_, run_underlying ht, Builtin.lenOf, Builtin.firstCells, hs, hload, hst, goInt, Deferred.ofValue, invoke, builtin]⟩
end ops

/-! Things that can be changed, seen from outside: their blocks are a set. -/
def zn : Option Addr := none
abbrev zz (_ : Option Addr) (Z : Nat → Prop) (k : Nat) : Prop := Z k
theorem zz_nil {q : Prop} {k : Nat} (h : zz none (fun _ => False) k) : q := False.elim h
/-- The program's memory. -/
def MO (Z : Nat → Prop) (w : World) (b : Nat) (m : Mem) (tl : List Tl) : Prop :=
  ∃ (s : Option Addr) (c : Nat) (T : List (SE Vl Rd)) (st : Option Addr) (ct : Nat), T.map SE.abs = m ∧ Blk w b [.slice s T.length c, .int .i64 (waits m : Nat), .slice st tl.length ct] 113 ∧ MTab w 65 36 2 vlC 115 2 rdC s c T ∧ OwnS w 106 3 st tl.length ct (tl.flatMap tlC) ∧
    (∀ k, mtb s T k → k ≠ b) ∧ (∀ k, ob st k → k ≠ b) ∧ (∀ k, mtb s T k → ob st k → False) ∧ Z b ∧ (∀ k, mtb s T k → Z k) ∧ (∀ k, ob st k → Z k) ∧ ∀ k, Z k → k < w.heap.size
section mo
variable {Z : Nat → Prop} {w w' : World} {b : Nat} {m : Mem} {tl : List Tl}
theorem MO.lt (h : MO Z w b m tl) {k : Nat} (hk : Z k) : k < w.heap.size := by obtain ⟨_, _, _, _, _, _, _, _, _, _, _, _, _, _, _, h⟩ := h; exact h k hk
theorem MO.fr (h : MO Z w b m tl) {S : Nat → Prop} (hf : Fr S w w') (hS : ∀ k, Z k → ¬ S k) : MO Z w' b m tl := by
  obtain ⟨s, c, T, st, ct, h1, h2, h3, h4, h5, h6, h7, h8, h9, h10, h11⟩ := h
  exact ⟨s, c, T, st, ct, h1, h2.fr hf (hS b h8), h3.fr hf (fun k hk => hS k (h9 k hk)), h4.fr hf (fun k hk => hS k (h10 k hk)), h5, h6, h7, h8, h9, h10, fun k hk => Nat.lt_of_lt_of_le (h11 k hk) hf.size⟩
theorem MO.ext (h : MO Z w b m tl) (hf : Ext w w') : MO Z w' b m tl := h.fr hf (fun _ _ hn => hn)
theorem MO.in (h : MO Z w b m tl) : Z b := by obtain ⟨_, _, _, _, _, _, _, _, _, _, _, _, h, _⟩ := h; exact h
/-- what is new in it -/
theorem mo_mk {lo n nt c ct : Nat} {s st : Option Addr} {T : List (SE Vl Rd)} {wt : Int} (hT : T.map SE.abs = m) (hB : Blk w b [.slice s n c, .int .i64 wt, .slice st nt ct] 113) (hn : n = T.length) (hw : wt = (waits m : Nat)) (hnt : nt = tl.length)
    (hM : MTab w 65 36 2 vlC 115 2 rdC s c T) (hO : OwnS w 106 3 st nt ct (tl.flatMap tlC)) (h1 : ∀ k, mtb s T k → k ≠ b) (h2 : ∀ k, ob st k → k ≠ b) (h3 : ∀ k, mtb s T k → ob st k → False)
    (g1 : Z b ∨ lo ≤ b) (g2 : ∀ k, mtb s T k → Z k ∨ lo ≤ k) (g3 : ∀ k, ob st k → Z k ∨ lo ≤ k) : ∃ Z2, MO Z2 w b m tl ∧ ∀ k, Z2 k → Z k ∨ lo ≤ k := by
  subst hn; subst hw; subst hnt
  exact ⟨fun k => (Z k ∨ lo ≤ k) ∧ k < w.heap.size, ⟨s, c, T, st, ct, hT, hB, hM, hO, h1, h2, h3, ⟨g1, hB.lt⟩, fun k hk => ⟨g2 k hk, hM.lt hk⟩, fun k hk => ⟨g3 k hk, hO.lt hk⟩, fun k hk => hk.2⟩, fun k hk => hk.1⟩
theorem mo_new {lo n nt c ct : Nat} {s st : Option Addr} {T : List (SE Vl Rd)} {wt : Int} (hT : T.map SE.abs = m) (hB : Blk w b [.slice s n c, .int .i64 wt, .slice st nt ct] 113) (hn : n = T.length) (hw : wt = (waits m : Nat)) (hnt : nt = tl.length)
    (hM : MTab w 65 36 2 vlC 115 2 rdC s c T) (hO : OwnS w 106 3 st nt ct (tl.flatMap tlC)) (h1 : ∀ k, mtb s T k → k ≠ b) (h2 : ∀ k, ob st k → k ≠ b) (h3 : ∀ k, mtb s T k → ob st k → False)
    (g1 : lo ≤ b) (g2 : ∀ k, mtb s T k → lo ≤ k) (g3 : ∀ k, ob st k → lo ≤ k) : ∃ Z2, MO Z2 w b m tl ∧ ∀ k, Z2 k → lo ≤ k := by
  obtain ⟨Z2, h, h'⟩ := mo_mk (Z := fun _ => False) hT hB hn hw hnt hM hO h1 h2 h3 (.inr g1) (fun k hk => .inr (g2 k hk)) (fun k hk => .inr (g3 k hk))
  exact ⟨Z2, h, fun k hk => (h' k hk).elim False.elim id⟩
end mo
/-- the memory that stands after a step -/
def aft (m : Mem) (r : Out) : Mem := if r.1 = 0 then r.2.1 else m
/-- what a step of the program's gives -/
def OutX (Z : Nat → Prop) (lo b : Nat) (m : Mem) (tl : List Tl) (w : World) (v : Value) (r : Out) : Prop := v = .tuple #[vlV r.2.2.1, .int .i64 r.1] ∧ ∃ Z2, MO Z2 w b (aft m r) (tl ++ r.2.2.2) ∧ ∀ k, Z2 k → Z k ∨ lo ≤ k
section outx
variable {Z : Nat → Prop} {lo b : Nat} {m : Mem} {tl : List Tl} {w : World} {z s ix y u : Vl} {rd : Int} {x : St}
theorem aft_0 {r : Out} (h : r.1 = 0) : aft m r = r.2.1 := if_pos h
theorem aft_e {r : Out} (h : r.1 ≠ 0) : aft m r = m := if_neg h
theorem outx_mk {r r' : Out} {m' : Mem} {v : Value} (hr : r = r') (hv : v = .tuple #[vlV r'.2.2.1, .int .i64 r'.1]) (hm : aft m r' = m') (h : ∃ Z2, MO Z2 w b m' (tl ++ r'.2.2.2) ∧ ∀ k, Z2 k → Z k ∨ lo ≤ k) : OutX Z lo b m tl w v r := by
  subst hr; subst hm; exact ⟨hv, h⟩
theorem outx_old {r : Out} {g : Vl} {v : Value} (hr : r = (0, m, g, [])) (hv : v = .tuple #[vlV g, .int .i64 0]) (h : ∃ Z2, MO Z2 w b m tl ∧ ∀ k, Z2 k → Z k ∨ lo ≤ k) : OutX Z lo b m tl w v r := outx_mk hr hv rfl (by rw [List.append_nil]; exact h)
theorem outx_err {r : Out} {e : Int} {v : Value} (hr : r = (e, [], (0, 0), [])) (he : e ≠ 0) (hv : v = .tuple #[vlV (0, 0), .int .i64 e]) (h : ∃ Z2, MO Z2 w b m tl ∧ ∀ k, Z2 k → Z k ∨ lo ≤ k) : OutX Z lo b m tl w v r := outx_mk hr hv (aft_e he) (by rw [List.append_nil]; exact h)
theorem alX_5 (h : z.1 = 5) : allocR m z = (0, m, z, []) := by unfold allocR; rw [if_pos h]
theorem alX_1 (h5 : ¬ z.1 = 5) (h : z.1 ≠ 1) : allocR m z = (0, m, (5, 5), []) := by unfold allocR; rw [if_neg h5, if_pos h]
theorem alX_4 (h5 : ¬ z.1 = 5) (h1 : ¬ z.1 ≠ 1) (h : ¬ (0 ≤ z.2 ∧ z.2 ≤ 100)) : allocR m z = (0, m, (5, 4), []) := by unfold allocR; rw [if_neg h5, if_neg h1, if_pos h]
theorem alX_full (h5 : ¬ z.1 = 5) (h1 : ¬ z.1 ≠ 1) (h : 0 ≤ z.2 ∧ z.2 ≤ 100) (hl : ((m.length : Nat) : Int) = 400) : allocR m z = (5, [], (0, 0), []) := by
  unfold allocR; rw [if_neg h5, if_neg h1, if_neg (fun g => g h), if_pos (by omega)]
theorem alX_new (h5 : ¬ z.1 = 5) (h1 : ¬ z.1 ≠ 1) (h : 0 ≤ z.2 ∧ z.2 ≤ 100) (hl : ¬ ((m.length : Nat) : Int) = 400) : allocR m z = (0, m ++ [(holesN z.2.toNat, [])], (4, ((m.length : Nat) : Int)), []) := by
  unfold allocR holesN; rw [if_neg h5, if_neg h1, if_neg (fun g => g h), if_neg (by omega)]
theorem rdX_val (hf : fitB m s ix = true) (hx : sat m (num s) = x) (hu : x.1[num ix]? = some u) (h0 : u.1 ≠ 0) : readR m s ix rd = (0, m, u, []) := by
  unfold readR; rw [if_pos hf, cell_of hx hu, if_pos h0]
theorem rdX_full (hf : fitB m s ix = true) (hx : sat m (num s) = x) (hu : x.1[num ix]? = some u) (h0 : ¬ u.1 ≠ 0) (hw : ((waits m : Nat) : Int) = 6000) : readR m s ix rd = (5, [], (0, 0), []) := by
  unfold readR; rw [if_pos hf, cell_of hx hu, if_neg h0, if_pos (by omega)]
theorem rdX_new (hok : okM m = true) (hf : fitB m s ix = true) (hx : sat m (num s) = x) (hu : x.1[num ix]? = some u) (h0 : ¬ u.1 ≠ 0) (hw : ¬ ((waits m : Nat) : Int) = 6000) :
    readR m s ix rd = (0, m.set (num s) (x.1, x.2 ++ [(ix.2, rd)]), (0, 0), []) := by
  have := (okM_iff.1 hok).2.2
  unfold readR; rw [if_pos hf, cell_of hx hu, if_neg h0, if_neg (by omega), hx]
theorem rdX_s (hf : fitB m s ix = false) (h : s.1 = 5) : readR m s ix rd = (0, m, s, []) := by rw [rd_of hf, if_pos h]
theorem rdX_ix (hf : fitB m s ix = false) (h5 : ¬ s.1 = 5) (h : ix.1 = 5) : readR m s ix rd = (0, m, ix, []) := by rw [rd_of hf, if_neg h5, if_pos h]
theorem rdX_3 (hf : fitB m s ix = false) (h5 : ¬ s.1 = 5) (hi : ¬ ix.1 = 5) (h : s.1 = 3 ∨ (s.1 = 4 ∧ ix.1 = 1)) : readR m s ix rd = (0, m, (5, 3), []) := by rw [rd_of hf, if_neg h5, if_neg hi, if_pos h]
theorem rdX_5 (hf : fitB m s ix = false) (h5 : ¬ s.1 = 5) (hi : ¬ ix.1 = 5) (h : ¬ (s.1 = 3 ∨ (s.1 = 4 ∧ ix.1 = 1))) : readR m s ix rd = (0, m, (5, 5), []) := by rw [rd_of hf, if_neg h5, if_neg hi, if_neg h]
theorem wrX_no (hf : fitB m s ix = false) : writeR m s ix y = (0, m, (3, 0), []) := by unfold writeR; rw [if_neg (by rw [hf]; exact Bool.false_ne_true)]
theorem wrX_full (hf : fitB m s ix = true) (hx : sat m (num s) = x) (hu : x.1[num ix]? = some u) (h0 : u.1 ≠ 0) : writeR m s ix y = (6, [], (0, 0), []) := by unfold writeR; rw [if_pos hf, cell_of hx hu, if_pos h0]
theorem wrX_new {i : Nat} (hf : fitB m s ix = true) (hx : sat m (num s) = x) (hu : x.1[num ix]? = some u) (h0 : ¬ u.1 ≠ 0) (hi : ¬ (i : Int) < (x.2.length : Int)) :
    writeR m s ix y = (0, m.set (num s) (x.1.set (num ix) y, restW x.2 ix.2 i), (3, 0), toldW x.2 ix.2 y i) := by
  rw [toldW_all hi, restW_all hi]
  unfold writeR; rw [if_pos hf, cell_of hx hu, if_neg h0, hx]
/-- how many still wait -/
theorem rest_told (L : List Rd) (k : Int) (y : Vl) (i : Nat) : (restW L k i).length + (toldW L k y i).length = (L.take i).length := by
  unfold restW toldW
  rw [List.length_map]
  generalize L.take i = M
  induction M with
  | nil => rfl
  | cons r M ih => by_cases h : r.1 = k <;> simp [h] at ih ⊢ <;> omega
theorem write_waits {i : Nat} (hx : m[num s]? = some x) (hi : ¬ (i : Int) < (x.2.length : Int)) : waits (m.set (num s) (x.1.set (num ix) y, restW x.2 ix.2 i)) + (toldW x.2 ix.2 y i).length = waits m := by
  have h1 := waits_set (x := (x.1.set (num ix) y, restW x.2 ix.2 i)) hx
  have h2 := rest_told x.2 ix.2 y i
  rw [List.take_of_length_le (by omega)] at h2
  dsimp only at h1
  omega
theorem read_waits (hx : m[num s]? = some x) (r : Rd) : waits (m.set (num s) (x.1, x.2 ++ [r])) = waits m + 1 := by
  have h1 := waits_set (x := (x.1, x.2 ++ [r])) hx
  rw [List.length_append] at h1
  have h2 : ([r] : List Rd).length = 1 := rfl
  omega
theorem al_num {n : Nat} {e : SE Vl Rd} {T : List (SE Vl Rd)} (h : T.length = n) : Value.tuple #[.agg #[.int .u8 4, .int .i64 (((T ++ [e]).length : Nat) - (1 : Int))], .int .i64 0] = .tuple #[vlV (4, ((n : Nat) : Int)), .int .i64 0] := by subst h; simp [vlV]
theorem alloc_waits (l : List Vl) : waits (m ++ [(l, [])]) = waits m := by rw [waits_app]; rfl
end outx
theorem num_eq' {v : Vl} (h : 0 ≤ v.2) : ((num v : Nat) : Int) = v.2 := by unfold num; omega
/-- where a cell lies -/
def CellP (m : Mem) (T : List (SE Vl Rd)) (s ix : Vl) (v : Value) : Prop :=
  ∃ ad : Option Addr, v = .pointer ad ∧ ad.isNone = !fitB m s ix ∧ (fitB m s ix = true → ∃ (bA oA cA : Nat) (sB : Option Addr) (cB : Nat) (x : St), m[num s]? = some x ∧ sat m (num s) = x ∧ T[num s]? = some ((some ⟨bA, oA, none⟩, cA, x.1), (sB, cB, x.2)) ∧ num ix < x.1.length ∧ ((num ix : Nat) : Int) = ix.2 ∧ ad = some ⟨bA, oA + num ix * 2, none⟩)
theorem cell_no {m : Mem} {T : List (SE Vl Rd)} {s ix : Vl} (h : fitB m s ix = false) : CellP m T s ix (.pointer none) := ⟨none, rfl, by rw [h]; rfl, fun g => by rw [h] at g; cases g⟩
theorem cell_yes {m : Mem} {T : List (SE Vl Rd)} {s ix : Vl} {bA oA cA cB : Nat} {sB : Option Addr} {x : St} (hx : m[num s]? = some x) (he : T[num s]? = some ((some ⟨bA, oA, none⟩, cA, x.1), (sB, cB, x.2))) (h4 : s.1 = 4) (h1 : ix.1 = 1) (hi : 0 ≤ ix.2 ∧ ix.2 ≤ (x.1.length : Int) - 1) :
    CellP m T s ix (.pointer (some ⟨bA, oA + num ix * 2, none⟩)) := by
  have hf : fitB m s ix = true := by unfold fitB; rw [sat_of hx]; exact decide_eq_true ⟨h4, h1, hi.1, by omega⟩
  exact ⟨_, rfl, by rw [hf]; rfl, fun _ => ⟨bA, oA, cA, sB, cB, x, hx, sat_of hx, he, by unfold num; omega, num_eq' hi.1, rfl⟩⟩
/-- what it gives to look at a memory -/
def OpenR (lo : Nat) (w : World) (v : Value) (m : Mem) : Prop := (okM m = false ∧ v = .tuple #[.pointer none, .int .i64 4]) ∨ (okM m = true ∧ ∃ b Z, v = .tuple #[.pointer (some ⟨b, 0, none⟩), .int .i64 0] ∧ MO Z w b m [] ∧ ∀ k, Z k → lo ≤ k)
theorem open_no {lo : Nat} {w : World} {m : Mem} (h : ¬ okM m = true) : OpenR lo w (.tuple #[.pointer none, .int .i64 4]) m := .inl ⟨by simpa using h, rfl⟩
theorem open_st {lo i : Nat} {w : World} {m : Mem} {x : St} (hx : m[i]? = some x) (h : ¬ stB m.length x = true) : OpenR lo w (.tuple #[.pointer none, .int .i64 4]) m := open_no fun g => h ((okM_iff.1 g).2.1 x (List.mem_of_getElem? hx))
theorem open_ok {lo b i n c : Nat} {s : Option Addr} {w : World} {m : Mem} {T : List (SE Vl Rd)} (hT : T.map SE.abs = m.take i) (hi : ¬ (i : Int) < (m.length : Int)) (hq : (m.take i).all (stB m.length) = true) (h4 : ¬ (400 : Int) < (m.length : Int)) (hw : waits (m.take i) ≤ 6000)
    (hB : Blk w b [.slice s n c, .int .i64 (waits (m.take i) : Nat), .slice none 0 0] 113) (hn : n = T.length) (hM : MTab w 65 36 2 vlC 115 2 rdC s c T) (h1 : ∀ k, mtb s T k → k ≠ b) (g1 : lo ≤ b) (g2 : ∀ k, mtb s T k → lo ≤ k) : OpenR lo w (.tuple #[.pointer (some ⟨b, 0, none⟩), .int .i64 0]) m := by
  rw [List.take_of_length_le (by omega)] at hT hB hw
  obtain ⟨Z, h, h'⟩ := mo_new (tl := []) (nt := 0) hT hB hn rfl rfl hM (OwnS.nil _ _ _) h1 (fun k h => ob_none h) (fun k _ h => ob_none h) g1 g2 (fun k h => ob_none h)
  exact .inr ⟨okM_iff.2 ⟨by omega, List.all_eq_true.1 (all_end hq hi), hw⟩, b, Z, rfl, h, h'⟩
theorem waits_lt {m : Mem} {i : Nat} (h : (6000 : Int) < ((waits (m.take (i + 1)) : Nat) : Int)) : ¬ okM m = true := fun g => by
  have := (okM_iff.1 g).2.2
  have := waits_le m (i + 1)
  omega
/-- told one more -/
theorem told_box {w : World} {b n c ct T : Nat} {s st : Option Addr} {wt : Int} {tl L : List Tl} {a : Tl} (h : Blk w b [.slice s n c, .int .i64 (wt - (L.length : Int) - 1), .slice st ((tl ++ L).length + 1) ct] T) :
    Blk w b [.slice s n c, .int .i64 (wt - ((L ++ [a]).length : Int)), .slice st (tl ++ (L ++ [a])).length ct] T := by
  have e1 : wt - ((L ++ [a]).length : Int) = wt - (L.length : Int) - 1 := by simp; omega
  have e2 : (tl ++ (L ++ [a])).length = (tl ++ L).length + 1 := by simp; omega
  rw [e1, e2]; exact h
theorem told_own {w : World} {e : TypeId} {sz c : Nat} {s : Option Addr} {tl L : List Tl} {f : Tl → List Value} {a : Tl} {us : List Value} (h : OwnS w e sz s ((tl ++ L).length + 1) c ((tl ++ L).flatMap f ++ us)) (hu : f a = us) :
    OwnS w e sz s (tl ++ (L ++ [a])).length c ((tl ++ (L ++ [a])).flatMap f) := by rw [← List.append_assoc]; exact own_more h hu
/-- lists that are looked through -/
def IdxR {α : Type} (q : α → Bool) (l : List α) (z : Int) : Prop := (z < 0 ∧ l.any q = false) ∨ ∃ (i : Nat) (x : α), z = (i : Int) ∧ l[i]? = some x ∧ q x = true ∧ (l.take i).any q = false
theorem idx_some {α : Type} {q : α → Bool} {l : List α} {i : Nat} {x : α} (hx : l[i]? = some x) (hq : q x = true) (h0 : (l.take i).any q = false) : ∃ z : Int, Value.int .i64 (i : Int) = .int .i64 z ∧ IdxR q l z := ⟨i, rfl, .inr ⟨i, x, rfl, hx, hq, h0⟩⟩
theorem idx_none {α : Type} {q : α → Bool} {l : List α} {i : Nat} (h : (l.take i).any q = false) (hi : ¬ (i : Int) < (l.length : Int)) : ∃ z : Int, Value.int .i64 (-1) = .int .i64 z ∧ IdxR q l z := ⟨-1, rfl, .inl ⟨by omega, any_end h hi⟩⟩
theorem IdxR.any {α : Type} {q : α → Bool} {l : List α} {z : Int} (h : IdxR q l z) : decide (z ≥ 0) = l.any q := by
  rcases h with ⟨h1, h2⟩ | ⟨i, x, rfl, hx, hq, _⟩
  · rw [h2]; exact decide_eq_false (by omega)
  · rw [any_yes hx hq]; exact decide_eq_true (by omega)
theorem clone_nil {α : Type} {w : World} {F : Nat → Prop} {s : Option Addr} {sz : Nat} {C : World → Nat → Nat → α → Prop} {l : List α} (hl : Sl F w s sz l C) (h : s.isNone = true) : l = [] := by
  cases l with
  | nil => rfl
  | cons x y =>
    obtain ⟨b, o, h1, _⟩ := hl 0 x rfl
    rw [h1] at h; cases h
theorem is2_t {c : List Vl} {r : Rd} (h : ¬ (0 ≤ r.1 ∧ r.1 ≤ (c.length : Int) - 1)) : Value.bool true = .bool (!waitB c r) := by
  have := waitB_out h
  rw [Bool.not_eq_true] at this; rw [this]; rfl
theorem is2_f {c : List Vl} {r : Rd} {u : Vl} (hr : 0 ≤ r.1 ∧ r.1 ≤ (c.length : Int) - 1) (hu : c[r.1.toNat]? = some u) : Value.bool (!decide (u.1 = 0)) = .bool (!waitB c r) := by rw [waitB_at hr.1 hu]
theorem any_not {α : Type} (p : α → Bool) (l : List α) : (l.any fun x => !p x) = !l.all p := by
  induction l with
  | nil => rfl
  | cons x l ih => rw [List.any_cons, List.all_cons, ih, Bool.not_and]
theorem ist_len {n : Nat} {x : St} (h : (100 : Int) < (x.1.length : Int)) : Value.bool false = .bool (stB n x) := by
  have := stB_len (n := n) h
  rw [Bool.not_eq_true] at this; rw [this]
theorem ist_val {n : Nat} {x : St} (h : (x.1.any fun v => !isVal v n) = true) : Value.bool false = .bool (stB n x) := by
  rw [any_not] at h
  have := stB_val (n := n) (x := x) (by simpa using h)
  rw [Bool.not_eq_true] at this; rw [this]
theorem ist_end {n : Nat} {x : St} (h1 : ¬ (100 : Int) < (x.1.length : Int)) (h2 : (x.1.any fun v => !isVal v n) = false) : Value.bool (!(x.2.any fun r => !waitB x.1 r)) = .bool (stB n x) := by
  rw [any_not] at h2 ⊢
  unfold stB
  rw [decide_eq_true (show x.1.length ≤ 100 by omega), show x.1.all (fun v => isVal v n) = true by simpa using h2]
  simp
/-! A new list of holes, as the library makes it. -/
abbrev hzC : List Value := [.int .u8 0, .int .i64 0]
theorem mul_fin {e1 e2 : Int} {y : Nat} (h1 : e1 = 0) (h2 : e2 = (y : Int)) : Value.tuple #[.int .u64 e1, .int .u64 e2] = .tuple #[.int .u64 0, .int .u64 (y : Nat)] := by rw [h1, h2]
theorem rep_len (n : Nat) : ((List.replicate n hzC).flatten).length = n * 2 := flatten_len (sz := 2) rfl n
theorem rep_get {n j : Nat} {v : Value} (h : ((List.replicate n hzC).flatten)[j]? = some v) : hzC[j % 2]? = some v ∧ j < n * 2 := by
  have hj : j < n * 2 := by rw [← rep_len]; exact (List.getElem?_eq_some_iff.1 h).1
  rw [flatten_get (sz := 2) rfl n j hj] at h
  exact ⟨h, hj⟩
theorem rep_seg {n o k : Nat} (h : o + k ≤ n) : (((List.replicate n hzC).flatten).drop (o * 2)).take (k * 2) = (List.replicate k hzC).flatten := by
  obtain ⟨r, rfl⟩ : ∃ r, n = o + (k + r) := ⟨n - (o + k), by omega⟩
  rw [← List.replicate_append_replicate, List.flatten_append, List.drop_left' (rep_len o), ← List.replicate_append_replicate, List.flatten_append, List.take_left' (rep_len k)]
theorem rep_seg0 {n k : Nat} (h : k ≤ n) : (((List.replicate n hzC).flatten).drop 0).take (k * 2) = (List.replicate k hzC).flatten := by
  have := rep_seg (n := n) (o := 0) (k := k) (by omega)
  rwa [Nat.zero_mul] at this
theorem rep_src1 {w : World} {b n : Nat} (B : Blk w b hzC 36) (h : n ≤ 1) : ∀ j v, ((List.replicate n hzC).flatten)[j]? = some v → w.cell? ⟨b, 0 + j, none⟩ = some v := fun j v hv => by
  obtain ⟨h1, h2⟩ := rep_get hv
  rw [Nat.zero_add]
  refine B.cell j ?_
  rw [← h1, Nat.mod_eq_of_lt (by omega)]
theorem rep_srcN {w : World} {b n k : Nat} (B : Blk w b ((List.replicate n hzC).flatten) 36) (h : k ≤ n) : ∀ j v, ((List.replicate k hzC).flatten)[j]? = some v → w.cell? ⟨b, 0 + j, none⟩ = some v := fun j v hv => by
  obtain ⟨h1, h2⟩ := rep_get hv
  rw [Nat.zero_add]
  refine B.cell j ?_
  rw [flatten_get (sz := 2) rfl n j (by omega)]
  exact h1
theorem rep_one (n : Nat) : ((List.replicate n hzC).flatten).all (fun u => u.oneCell') = true := List.all_eq_true.2 fun u hu => by
  obtain ⟨l, hl, hu⟩ := List.mem_flatten.1 hu
  obtain ⟨_, rfl⟩ := List.mem_replicate.1 hl
  simp only [List.mem_cons, List.not_mem_nil, or_false] at hu
  rcases hu with rfl | rfl <;> rfl
theorem drop_some {b k n : Nat} (h : k < n) : dropAt (some ⟨b, 0, none⟩) k n 2 = some ⟨b, k * 2, none⟩ := by
  unfold dropAt; rw [if_neg (by omega)]
  simp [Addr.add]
  intro e; omega
theorem fit_yes {m : Mem} {s ix : Vl} {ad : Option Addr} (h : ad.isNone = !fitB m s ix) (hn : (!ad.isNone) = true) : fitB m s ix = true := by rw [h, Bool.not_not] at hn; exact hn
theorem fit_not {m : Mem} {s ix : Vl} {ad : Option Addr} (h : ad.isNone = !fitB m s ix) (hn : (!ad.isNone) = false) : fitB m s ix = false := by rw [h, Bool.not_not] at hn; exact hn
theorem vl_cell {w : World} {b o c i : Nat} {l : List Vl} {r : Vl} (h : OwnS w 36 2 (some ⟨b, o, none⟩) l.length c (l.flatMap vlC)) (hr : l[i]? = some r) (j : Nat) (v : Value) (hv : (vlC r)[j]? = some v) : w.cell? ⟨b, o + i * 2 + j, none⟩ = some v := by
  obtain ⟨b', o', h1, _, h3⟩ := h.sl (by decide) (l := l) (cells := vlC) rfl (fun _ _ => rfl) (F := fun _ => True) (fun _ _ => trivial) i r hr
  injection h1 with h1; injection h1 with a1 a2; subst a1; subst a2
  exact h3 j v hv
theorem fit_yes' {m : Mem} {s ix : Vl} {ad : Option Addr} (h : ad.isNone = !fitB m s ix) (hn : ad.isNone = false) : fitB m s ix = true := by rw [hn] at h; simpa using h.symm
theorem fit_not' {m : Mem} {s ix : Vl} {ad : Option Addr} (h : ad.isNone = !fitB m s ix) (hn : ad.isNone = true) : fitB m s ix = false := by rw [hn] at h; simpa using h.symm
theorem toldW_0 (L : List Rd) (k : Int) (y : Vl) : toldW L k y 0 = [] := rfl
theorem told_box0 {w : World} {b n c ct T : Nat} {s st : Option Addr} {wt : Int} {tl : List Tl} (h : Blk w b [.slice s n c, .int .i64 wt, .slice st tl.length ct] T) (L : List Rd) (k : Int) (y : Vl) :
    Blk w b [.slice s n c, .int .i64 (wt - ((toldW L k y 0).length : Int)), .slice st (tl ++ toldW L k y 0).length ct] T := by
  rw [toldW_0, List.append_nil, List.length_nil, Int.natCast_zero, Int.sub_zero]; exact h
/-! One step of the program's. -/
def areL (o : Op) : List Vl := if o.kind = 2 then [o.v, o.ix, o.val] else if o.kind = 3 then [o.v, o.ix] else [o.v]
section steps
variable {m : Mem} {o : Op}
theorem areL_2 (h : o.kind = 2) : areL o = [o.v, o.ix, o.val] := if_pos h
theorem areL_3 (h : o.kind = 3) : areL o = [o.v, o.ix] := by unfold areL; rw [if_neg (by omega), if_pos h]
theorem areL_1 (h : o.kind ≠ 2 ∧ o.kind ≠ 3) : areL o = [o.v] := by unfold areL; rw [if_neg h.1, if_neg h.2]
theorem argsA {l : List Vl} (hl : areL o = l) (hk : 1 ≤ o.kind ∧ o.kind ≤ 4) : argsB m o = !(l.any fun v => !thereB m v) := by
  subst hl
  rw [any_not, Bool.not_not]
  unfold argsB
  rw [decide_eq_true hk]
  by_cases h2 : o.kind = 2
  · rw [areL_2 h2, decide_eq_false (show ¬ (o.kind ≠ 2 ∧ o.kind ≠ 3) by omega), decide_eq_false (show ¬ (o.kind ≠ 2) by omega)]
    simp [Bool.and_assoc]
  · by_cases h3 : o.kind = 3
    · rw [areL_3 h3, decide_eq_false (show ¬ (o.kind ≠ 2 ∧ o.kind ≠ 3) by omega), decide_eq_true (show o.kind ≠ 2 from h2)]
      simp
    · rw [areL_1 ⟨h2, h3⟩, decide_eq_true (show o.kind ≠ 2 ∧ o.kind ≠ 3 from ⟨h2, h3⟩), decide_eq_true (show o.kind ≠ 2 from h2)]
      simp
theorem args_t {l : List Vl} (hl : areL o = l) (hk : 1 ≤ o.kind ∧ o.kind ≤ 4) (h : (l.any fun v => !thereB m v) = false) : argsB m o = true := by rw [argsA hl hk, h]; rfl
theorem args_f {l : List Vl} (hl : areL o = l) (hk : 1 ≤ o.kind ∧ o.kind ≤ 4) (h : (l.any fun v => !thereB m v) = true) : argsB m o = false := by rw [argsA hl hk, h]; rfl
theorem do_no (h : argsB m o = false) : doR m o = (2, [], (0, 0), []) := by unfold doR; rw [h]; rfl
theorem any_at {l : List Vl} (h : (l.any fun v => !thereB m v) = false) {v : Vl} (hv : v ∈ l) : thereB m v = true := by
  have := List.any_eq_false.1 h v hv
  simpa using this
theorem there_is {v : Vl} (h : thereB m v = true) : v.1 = 4 → 0 ≤ v.2 ∧ num v < m.length := there_ref h
theorem MO.parts {Z : Nat → Prop} {w : World} {b : Nat} {tl : List Tl} (h : MO Z w b m tl) : ∃ (s : Option Addr) (c : Nat) (T : List (SE Vl Rd)) (st : Option Addr) (ct : Nat), T.map SE.abs = m ∧ T.length = m.length ∧ Blk w b [.slice s T.length c, .int .i64 (waits m : Nat), .slice st tl.length ct] 113 ∧ MTab w 65 36 2 vlC 115 2 rdC s c T ∧ OwnS w 106 3 st tl.length ct (tl.flatMap tlC) ∧ (∀ k, mtb s T k → Z k) ∧ ∀ k, ob st k → Z k := by
  obtain ⟨s, c, T, st, ct, h1, h2, h3, h4, _, _, _, _, h5, h6, _⟩ := h
  exact ⟨s, c, T, st, ct, h1, by rw [← h1, List.length_map], h2, h3, h4, h5, h6⟩
end steps
theorem OpenR.all {lo : Nat} {w : World} {v : Value} {m : Mem} (h : OpenR lo w v m) : ∃ ad : Option Addr, v = .tuple #[.pointer ad, .int .i64 (chkE m)] ∧ (¬ chkE m ≠ 0 → ∃ b Z, ad = some ⟨b, 0, none⟩ ∧ MO Z w b m [] ∧ ∀ k, Z k → lo ≤ k) := by
  rcases h with ⟨h1, rfl⟩ | ⟨h1, b, Z, rfl, h2, h3⟩
  · refine ⟨none, ?_, fun g => ?_⟩
    · unfold chkE; rw [if_neg (by rw [h1]; exact Bool.false_ne_true)]
    · have := chk_0 g; rw [h1] at this; cases this
  · refine ⟨_, ?_, fun _ => ⟨b, Z, rfl, h2, h3⟩⟩
    unfold chkE; rw [if_pos h1]
theorem do_told {m : Mem} {o : Op} (h : ¬ (doR m o).1 = 0) : (doR m o).2.2.2 = [] := by rw [do_err h]
theorem outP_prog {G : Nat → Prop} {lo : Nat} {w : World} {m mM : Mem} {l : List Op} {gM : List Vl} {tM : List Tl} {e : Int} {nt c cg ct : Nat} {s sg st : Option Addr} {T : List (SE Vl Rd)} (hok : okM m = true) (hp : playF m l [] [] = (mM, gM, tM, e)) (hT : T.map SE.abs = mM)
    (hM : MTab w 65 36 2 vlC 115 2 rdC s c T) (hg : ∀ k, mtb s T k → lo ≤ k) (h2 : VlS (Iv lo w.heap.size) w sg gM) (hnt : nt = tM.length) (h3 : TlS (Iv lo w.heap.size) w st tM) :
    OutP G lo w (.tuple #[.agg #[.slice s T.length c], .slice sg gM.length cg, .slice st nt ct, .int .i64 (gM.length : Nat), .int .i64 e]) (playR m l) := by
  subst hT
  exact outP_of hok hp rfl (by rw [List.length_map]) rfl hnt (MTab.readM hM (fun k hk => ⟨.inr (hg k hk), hM.lt hk⟩)) h2 h3

/-! Structures that are met, and their new numbers. -/
def natC (n : Nat) : List Value := [.int .i64 (n : Nat)]
theorem metL_append : ∀ (l k : List Vl) (O : List Nat), metL O (l ++ k) = metL (metL O l) k
  | [], _, _ => rfl
  | v :: l, k, O => metL_append l k (met1 O v)
theorem renL_append : ∀ (l k : List Vl) (O : List Nat), renL O (l ++ k) = renL O l ++ renL (metL O l) k
  | [], _, _ => rfl
  | v :: l, k, O => by rw [List.cons_append, renL, renL_append l k, renL, List.cons_append, metL]
theorem renL_len : ∀ (l : List Vl) (O : List Nat), (renL O l).length = l.length
  | [], _ => rfl
  | v :: l, O => by rw [renL, List.length_cons, List.length_cons, renL_len l]
section meets
variable {l : List Vl} {O : List Nat} {i at_ : Nat} {v : Vl}
theorem metL_on (h : l[i]? = some v) : metL O (l.take (i + 1)) = met1 (metL O (l.take i)) v := by
  rw [List.take_add_one, h, metL_append]; rfl
theorem renL_on (h : l[i]? = some v) : renL O (l.take (i + 1)) = renL O (l.take i) ++ [ren (met1 (metL O (l.take i)) v) v] := by
  rw [List.take_add_one, h, renL_append]; rfl
theorem met1_no (h : v.1 ≠ 4) : met1 O v = O := by unfold met1; rw [if_neg h]
theorem ren_no (h : v.1 ≠ 4) : ren O v = v := by unfold ren; rw [if_neg h]
theorem met1_old (h : num v ∈ O) : met1 O v = O := by unfold met1; rw [if_pos (inB_iff.2 h)]; split <;> rfl
theorem met1_new (h4 : v.1 = 4) (h : num v ∉ O) : met1 O v = O ++ [num v] := by unfold met1; rw [if_pos h4, if_neg (fun g => h (inB_iff.1 g))]
theorem ren_old (h4 : v.1 = 4) : ren O v = (4, ((pos (num v) O : Nat) : Int)) := by unfold ren; rw [if_pos h4]
theorem ren_new (h4 : v.1 = 4) (h : num v ∉ O) : ren (O ++ [num v]) v = (4, ((O.length : Nat) : Int)) := by rw [ren_old h4, pos_new h]
end meets
theorem num_eq {v : Vl} (h : 0 ≤ v.2) : ((num v : Nat) : Int) = v.2 := by unfold num; omega
/-- drawn so far, and what is left -/
theorem drawC_on {A : List (List Vl)} {f i s : Nat} {O : List Nat} {C : List (List Vl)} (h : O[i]? = some s) : C ++ drawC A (f + 1) i O = (C ++ [renL O (cellsAt A s)]) ++ drawC A f (i + 1) (metL O (cellsAt A s)) := by
  rw [List.append_assoc]; congr 1
  conv => lhs; unfold drawC
  rw [h]; rfl
theorem drawC_end {A : List (List Vl)} {f i : Nat} {O : List Nat} (h : O.length ≤ i) : drawC A f i O = [] := by
  cases f with
  | zero => rfl
  | succ f => unfold drawC; rw [List.getElem?_eq_none h]
/-- what is met lies in the memory -/
structure MetOk (n : Nat) (O : List Nat) : Prop where
  nd : O.Nodup
  lt : ∀ x ∈ O, x < n
theorem MetOk.len {n : Nat} {O : List Nat} (h : MetOk n O) : O.length ≤ n := nodup_le n O h.nd h.lt
theorem MetOk.on {n : Nat} {O : List Nat} {l : List Vl} (h : MetOk n O) (hl : refsIn n l) : MetOk n (metL O l) := ⟨metL_nodup l h.nd, metL_lt hl h.lt⟩
theorem metOk_nil (n : Nat) : MetOk n [] := ⟨List.nodup_nil, fun x h => by cases h⟩
/-- values of a memory -/
theorem vals_refs {l : List Vl} {n : Nat} (h : (l.all fun v => isVal v n) = true) : refsIn n l := fun v hv h4 => (isVal_ref (List.all_eq_true.1 h v hv) h4).2
theorem vals_nn {l : List Vl} {n : Nat} (h : (l.all fun v => isVal v n) = true) : ∀ v ∈ l, v.1 = 4 → 0 ≤ v.2 := fun v hv h4 => (isVal_ref (List.all_eq_true.1 h v hv) h4).1
theorem okM_vals {m : Mem} (h : okM m = true) {i : Nat} {x : St} (hx : m[i]? = some x) : (x.1.all fun v => isVal v m.length) = true :=
  List.all_eq_true.2 (stB_iff.1 ((okM_iff.1 h).2.1 x (List.mem_of_getElem? hx))).2.1
/-- what is met, behind a pointer -/
def MetO (Z : Nat → Prop) (w : World) (b : Nat) (O : List Nat) : Prop :=
  ∃ (s : Option Addr) (c : Nat), Blk w b [.slice s O.length c] 77 ∧ OwnS w 3 1 s O.length c (O.flatMap natC) ∧ (∀ k, ob s k → k ≠ b) ∧ Z b ∧ (∀ k, ob s k → Z k) ∧ ∀ k, Z k → k < w.heap.size
section meto
variable {Z : Nat → Prop} {w w' : World} {b : Nat} {O : List Nat}
theorem MetO.lt (h : MetO Z w b O) {k : Nat} (hk : Z k) : k < w.heap.size := by obtain ⟨_, _, _, _, _, _, _, h⟩ := h; exact h k hk
theorem MetO.fr (h : MetO Z w b O) {S : Nat → Prop} (hf : Fr S w w') (hS : ∀ k, Z k → ¬ S k) : MetO Z w' b O := by
  obtain ⟨s, c, h1, h2, h3, h4, h5, h6⟩ := h
  exact ⟨s, c, h1.fr hf (hS b h4), h2.fr hf (fun k hk => hS k (h5 k hk)), h3, h4, h5, fun k hk => Nat.lt_of_lt_of_le (h6 k hk) hf.size⟩
theorem MetO.ext (h : MetO Z w b O) (hf : Ext w w') : MetO Z w' b O := h.fr hf (fun _ _ hn => hn)
end meto
/-- the numbers, in a map -/
def numF (O : List Nat) (k : Int) : Option Value := if 0 ≤ k ∧ k.toNat ∈ O then some (.int .i64 ((pos k.toNat O : Nat) : Int)) else none
theorem numF_in {O : List Nat} {v : Vl} (h0 : 0 ≤ v.2) (h : num v ∈ O) : numF O v.2 = some (.int .i64 ((pos (num v) O : Nat) : Int)) := if_pos ⟨h0, h⟩
theorem numF_no {O : List Nat} {v : Vl} (h : num v ∉ O) : numF O v.2 = none := if_neg fun g => h g.2
theorem numF_new {O : List Nat} {v : Vl} (h0 : 0 ≤ v.2) (h : num v ∉ O) (k : Int) : (if k = v.2 then some (Value.int .i64 ((O.length : Nat) : Int)) else numF O k) = numF (O ++ [num v]) k := by
  unfold numF
  by_cases hk : k = v.2
  · subst hk
    rw [if_pos rfl, if_pos ⟨h0, by simp [num]⟩]
    rw [show v.2.toNat = num v from rfl, pos_new h]
  · rw [if_neg hk]
    have hne : 0 ≤ k → k.toNat ≠ num v := fun g e => hk (by unfold num at e; omega)
    by_cases g : 0 ≤ k ∧ k.toNat ∈ O
    · rw [if_pos g, if_pos ⟨g.1, by simp [g.2]⟩, pos_app g.2]
    · rw [if_neg g, if_neg (fun q => g ⟨q.1, by have := q.2; simp only [List.mem_append, List.mem_singleton] at this; exact this.resolve_right (hne q.1)⟩)]

/-! Maps whose entries bear stamps: an entry is made, then stored. -/
theorem modify_last (es : Array MapEntry) (e0 : MapEntry) (q : MapEntry → MapEntry) : (es.push e0).modify es.size q = es.push (q e0) := by
  apply Array.toList_inj.1
  rw [Array.toList_modify, Array.toList_push, Array.toList_push]
  apply List.ext_getElem?
  intro i
  rw [List.getElem?_modify]
  have e1 : es.size = es.toList.length := by simp
  by_cases hi : i < es.toList.length
  · rw [List.getElem?_append_left hi, List.getElem?_append_left hi]; have hne : ¬ es.size = i := by omega
    cases es.toList[i]? <;> simp [hne]
  · rw [List.getElem?_append_right (by omega), List.getElem?_append_right (by omega)]
    by_cases hj : i = es.size
    · subst hj; rw [e1, Nat.sub_self]; simp
    · obtain ⟨j, hj2⟩ : ∃ j, i - es.toList.length = j + 1 := ⟨i - es.toList.length - 1, by omega⟩
      rw [hj2]; simp
section stamps
variable {κ : Type} [DecidableEq κ] {w w' : World} {b c : Nat} {kv : κ → Value} {f : κ → Option Value}
def MapB (w : World) (b : Nat) (kv : κ → Value) (f : κ → Option Value) : Prop :=
  ∃ (es : Array MapEntry) (clock : Nat) (l : List (κ × Value)), w.heap[b]? = some (.map es clock) ∧ Ents kv es.toList l ∧ (∀ k, getL l k = f k) ∧ ∀ e ∈ es.toList, e.born < clock
def MapS (w : World) (b : Nat) (kv : κ → Value) (f : κ → Option Value) (k : κ) (n : Nat) : Prop :=
  ∃ (es : Array MapEntry) (z : Value) (l : List (κ × Value)), w.heap[b]? = some (.map (es.push { key := kv k, val := z, born := n }) (n + 1)) ∧ Ents kv es.toList l ∧ (∀ k, getL l k = f k) ∧ ∀ e ∈ es.toList, e.born < n
theorem MapB.v (h : MapB w b kv f) : MapV w b kv f := by obtain ⟨es, clock, l, h1, h2, h3, _⟩ := h; exact ⟨es, clock, l, h1, h2, h3⟩
theorem MapB.lt (h : MapB w b kv f) : b < w.heap.size := h.v.lt
theorem heap_fr {S : Nat → Prop} {o : Obj} (h : w.heap[b]? = some o) (k : Fr S w w') (hs : ¬ S b) : w'.heap[b]? = some o := by
  rw [← h]; exact k.block b (Array.getElem?_eq_some_iff.1 h).1 hs
theorem MapB.fr {S : Nat → Prop} (h : MapB w b kv f) (k : Fr S w w') (hs : ¬ S b) : MapB w' b kv f := by
  obtain ⟨es, clock, l, h1, h2⟩ := h; exact ⟨es, clock, l, heap_fr h1 k hs, h2⟩
theorem MapB.ext (h : MapB w b kv f) (k : Ext w w') : MapB w' b kv f := h.fr k (fun hn => hn)
theorem MapB.ne (h : MapB w b kv f) (k : Fr (· = c) w w') (hn : b ≠ c) : MapB w' b kv f := h.fr k hn
theorem MapS.fr {S : Nat → Prop} {k : κ} {n : Nat} (h : MapS w b kv f k n) (g : Fr S w w') (hs : ¬ S b) : MapS w' b kv f k n := by
  obtain ⟨es, z, l, h1, h2⟩ := h; exact ⟨es, z, l, heap_fr h1 g hs, h2⟩
theorem MapS.ext {k : κ} {n : Nat} (h : MapS w b kv f k n) (g : Ext w w') : MapS w' b kv f k n := h.fr g (fun hn => hn)
theorem MapS.ne {k : κ} {n : Nat} (h : MapS w b kv f k n) (g : Fr (· = c) w w') (hn : b ≠ c) : MapS w' b kv f k n := h.fr g hn
theorem MapS.lt {k : κ} {n : Nat} (h : MapS w b kv f k n) : b < w.heap.size := by obtain ⟨es, z, l, h1, _⟩ := h; exact (Array.getElem?_eq_some_iff.1 h1).1
theorem MapB.of (h : MapB w b kv f) {f' : κ → Option Value} (he : ∀ k, f k = f' k) : MapB w b kv f' := by
  obtain ⟨es, clock, l, h1, h2, h3, h4⟩ := h; exact ⟨es, clock, l, h1, h2, fun k => (h3 k).trans (he k), h4⟩
variable {P : Program} {N : Nat} {ρ : Nat → Value} {v : Value} {d : Option Tmp} {t : TypeId} {p : String} {a : Array Edge} {g : Option (Nat × Bool)}
variable {x y z : Operand} {T E TM : TypeId} {zv : Value} {k : κ} {r : Option Nat} {ds : List Deferred} {lo rest : List Oper} {K : (Nat → Value) → World → Prop} {u : Value}
theorem lx_makeMapB (kv : κ → Value) {m : Option Operand} (hw : Want N lo ⟨d, .makeMap TM m, t, p, a, g⟩ ρ true) (hr : ∀ w, (execOp (ev N ρ) ⟨d, .makeMap TM m, t, p, a, g⟩).run P w = .ok (.value (.map (some w.heap.size))) (w.alloc (.map #[] 0)))
    (kk : ∀ b w', b = w.heap.size → Ext w w' → MapB w' b kv (fun _ => none) → LX r P N ds lo K rest (up ρ d (.map (some b))) w') :
    LX r P N ds lo K (⟨d, .makeMap TM m, t, p, a, g⟩ :: rest) ρ w :=
  lx_value hw (v := .map (some w.heap.size)) (w' := w.alloc (.map #[] 0)) ⟨fun _ h => (by cases h), hr w⟩ (kk _ _ rfl (ext_alloc _ _) ⟨#[], 0, [], World.alloc_heap_new w _, rfl, fun k => rfl, fun e he => by cases he⟩)
end stamps
theorem metL_len : ∀ (l : List Vl) (O : List Nat), (metL O l).length ≤ O.length + l.length
  | [], _ => Nat.le_refl _
  | v :: l, O => by
    have h1 := metL_len l (met1 O v)
    have h2 : (met1 O v).length ≤ O.length + 1 := by
      unfold met1; split
      · split
        · omega
        · simp
      · omega
    rw [metL, List.length_cons]; omega
/-- structures that are met, with a map of their numbers -/
def MtO (Z : Nat → Prop) (w : World) (b : Nat) (O : List Nat) : Prop :=
  ∃ (bm : Nat) (s : Option Addr) (c : Nat), Blk w b [.map (some bm), .slice s O.length c] 172 ∧ MapB w bm kI (numF O) ∧ OwnS w 3 1 s O.length c (O.flatMap natC) ∧ b ≠ bm ∧ (∀ k, ob s k → k ≠ b) ∧ (∀ k, ob s k → k ≠ bm) ∧ Z b ∧ Z bm ∧ (∀ k, ob s k → Z k) ∧ ∀ k, Z k → k < w.heap.size
section mto
variable {Z : Nat → Prop} {w w' : World} {b : Nat} {O : List Nat}
theorem MtO.lt (h : MtO Z w b O) {k : Nat} (hk : Z k) : k < w.heap.size := by obtain ⟨_, _, _, _, _, _, _, _, _, _, _, _, h⟩ := h; exact h k hk
theorem MtO.fr (h : MtO Z w b O) {S : Nat → Prop} (hf : Fr S w w') (hS : ∀ k, Z k → ¬ S k) : MtO Z w' b O := by
  obtain ⟨bm, s, c, h1, h2, h3, h4, h5, h6, h7, h8, h9, h10⟩ := h
  exact ⟨bm, s, c, h1.fr hf (hS b h7), h2.fr hf (hS bm h8), h3.fr hf (fun k hk => hS k (h9 k hk)), h4, h5, h6, h7, h8, h9, fun k hk => Nat.lt_of_lt_of_le (h10 k hk) hf.size⟩
theorem MtO.ext (h : MtO Z w b O) (hf : Ext w w') : MtO Z w' b O := h.fr hf (fun _ _ hn => hn)
theorem MtO.in (h : MtO Z w b O) : Z b := by obtain ⟨_, _, _, _, _, _, _, _, _, h, _⟩ := h; exact h
theorem mt_mk {lo n c bm : Nat} {s : Option Addr} (hB : Blk w b [.map (some bm), .slice s n c] 172) (hn : n = O.length) (hM : MapB w bm kI (numF O)) (hO : OwnS w 3 1 s O.length c (O.flatMap natC)) (h1 : b ≠ bm) (h2 : ∀ k, ob s k → k ≠ b) (h3 : ∀ k, ob s k → k ≠ bm)
    (g1 : Z b ∨ lo ≤ b) (g2 : Z bm ∨ lo ≤ bm) (g3 : ∀ k, ob s k → Z k ∨ lo ≤ k) : MtO (fun k => k = b ∨ k = bm ∨ ob s k) w b O ∧ ∀ k, (k = b ∨ k = bm ∨ ob s k) → Z k ∨ lo ≤ k := by
  subst hn
  refine ⟨⟨bm, s, c, hB, hM, hO, h1, h2, h3, .inl rfl, .inr (.inl rfl), fun k hk => .inr (.inr hk), fun k hk => ?_⟩, fun k hk => ?_⟩
  · rcases hk with rfl | rfl | hk
    · exact hB.lt
    · exact hM.lt
    · exact hO.lt hk
  · rcases hk with rfl | rfl | hk
    · exact g1
    · exact g2
    · exact g3 k hk
end mto
/-- values with new numbers, and what is met behind it -/
def OutT (Z : Nat → Prop) (lo b : Nat) (O : List Nat) (l : List Vl) (w : World) (v : Value) : Prop :=
  ∃ (s : Option Addr) (c : Nat) (Z2 : Nat → Prop), v = .slice s (renL O l).length c ∧ OwnS w 36 2 s (renL O l).length c ((renL O l).flatMap vlC) ∧ (∀ k, ob s k → lo ≤ k) ∧ MtO Z2 w b (metL O l) ∧ (∀ k, Z2 k → Z k ∨ lo ≤ k) ∧ ∀ k, ob s k → ¬ Z2 k
theorem look_met {O : List Nat} {v : Vl} (h0 : 0 ≤ v.2) : ∃ (q : Int) (bq : Bool), Value.tuple #[(numF O v.2).getD (.int .i64 0), .bool (numF O v.2).isSome] = .tuple #[.int .i64 q, .bool bq] ∧ (bq = true → num v ∈ O ∧ q = ((pos (num v) O : Nat) : Int)) ∧ (bq = false → num v ∉ O) := by
  by_cases h : num v ∈ O
  · refine ⟨_, true, by rw [numF_in h0 h]; rfl, fun _ => ⟨h, rfl⟩, (fun g => by cases g)⟩
  · refine ⟨_, false, by rw [numF_no h]; rfl, (fun g => by cases g), fun _ => h⟩
section meetsteps
variable {l : List Vl} {O : List Nat} {i : Nat} {v : Vl}
theorem meet_no (hv : l[i]? = some v) (h : ¬ v.1 = 4) : metL O (l.take (i + 1)) = metL O (l.take i) ∧ renL O (l.take (i + 1)) = renL O (l.take i) ++ [v] := by
  rw [metL_on hv, renL_on hv, met1_no h, ren_no h]; exact ⟨rfl, rfl⟩
theorem meet_old (hv : l[i]? = some v) (h4 : v.1 = 4) (h : num v ∈ metL O (l.take i)) : metL O (l.take (i + 1)) = metL O (l.take i) ∧ renL O (l.take (i + 1)) = renL O (l.take i) ++ [(v.1, ((pos (num v) (metL O (l.take i)) : Nat) : Int))] := by
  rw [metL_on hv, renL_on hv, met1_old h, ren_old h4, h4]; exact ⟨rfl, rfl⟩
theorem meet_new (hv : l[i]? = some v) (h4 : v.1 = 4) (h : num v ∉ metL O (l.take i)) : metL O (l.take (i + 1)) = metL O (l.take i) ++ [num v] ∧ renL O (l.take (i + 1)) = renL O (l.take i) ++ [(v.1, (((metL O (l.take i)).length : Nat) : Int))] := by
  rw [metL_on hv, renL_on hv, met1_new h4 h, ren_new h4 h, h4]; exact ⟨rfl, rfl⟩
end meetsteps
theorem outT_of {Z : Nat → Prop} {w w0 : World} {b bm c co i : Nat} {O : List Nat} {l : List Vl} {s so : Option Addr} {v : Value} (hi : ¬ (i : Int) < (l.length : Int)) (hv : v = .slice s (renL O (l.take i)).length c) (h3 : OwnS w 36 2 s (renL O (l.take i)).length c ((renL O (l.take i)).flatMap vlC)) (hg : ∀ k, ob s k → Z k ∨ w0.heap.size ≤ k)
    (hB : Blk w b [.map (some bm), .slice so (metL O (l.take i)).length co] 172) (hM : MapB w bm kI (numF (metL O (l.take i)))) (hO : OwnS w 3 1 so (metL O (l.take i)).length co ((metL O (l.take i)).flatMap natC)) (h1 : b ≠ bm) (h2 : ∀ k, ob so k → k ≠ b) (h4 : ∀ k, ob so k → k ≠ bm)
    (g1 : Z b ∨ w0.heap.size ≤ b) (g2 : Z bm ∨ w0.heap.size ≤ bm) (g3 : ∀ k, ob so k → Z k ∨ w0.heap.size ≤ k) (hn1 : ∀ k, ob s k → k ≠ b) (hn2 : ∀ k, ob s k → k ≠ bm) (hn3 : ∀ k, ob s k → ob so k → False) (hs0 : ∀ k, ob s k → w0.heap.size ≤ k) : OutT Z w0.heap.size b O l w v := by
  rw [List.take_of_length_le (by omega)] at hv h3 hB hM hO
  obtain ⟨k1, k2⟩ := mt_mk (lo := w0.heap.size) hB rfl hM hO h1 h2 h4 g1 g2 g3
  refine ⟨s, c, _, hv, h3, hs0, k1, k2, fun k hk h => ?_⟩
  rcases h with rfl | rfl | h
  · exact hn1 _ hk rfl
  · exact hn2 _ hk rfl
  · exact hn3 k hk h
section entries
variable {κ : Type} [DecidableEq κ] {w w' : World} {b : Nat} {kv : κ → Value} {f : κ → Option Value}
variable {P : Program} {N : Nat} {ρ : Nat → Value} {d : Option Tmp} {t : TypeId} {p : String} {a : Array Edge} {g : Option (Nat × Bool)}
variable {x y z s : Operand} {T E TM : TypeId} {zv u : Value} {k : κ} {n : Nat}
theorem do_mapEntryNew (h : MapVT P TM T E kv zv) (hx : ev N ρ x = .map (some b)) (hy : ev N ρ y = kv k) (hm : MapB w b kv f) (hn : f k = none) :
    Do P N ⟨d, .mapEntry TM x y, t, p, a, g⟩ ρ w (fun v w' => Fr (· = b) w w' ∧ ∃ n : Nat, v = .tuple #[zv, .int .i64 n] ∧ MapS w' b kv f k n) := by
  obtain ⟨es, clock, l, h1, h2, h3, h4⟩ := hm
  have hg : (getObj b).run P w = .ok (.map es clock) w := gobj h1
  have hc := h.hc false k w
  have hlt := (Array.getElem?_eq_some_iff.1 h1).1
  rcases find_run h h2 k w with ⟨j, v, g1, g2, _⟩ | ⟨g1, g2, g3⟩
  · rw [h3, hn] at g2; cases g2
  · have hset := sobj (P := P) (.map (es.push { key := kv k, val := zv, born := clock }) (clock + 1)) h1
    refine do_value (v := .tuple #[zv, .int .i64 (clock : Nat)]) ⟨fun _ h => (by cases h), ?_⟩ ⟨fr_setObj h1 (.map (es.push { key := kv k, val := zv, born := clock }) (clock + 1)), clock, rfl, es, zv, l, by show (w.heap.setIfInBounds b _)[b]? = _; rw [Array.getElem?_setIfInBounds_self_of_lt hlt], h2, h3, h4⟩
    simp [execOp, hx, hy, Instr.mapEntry, Sem.run_bind, run_underlying h.ht, hg, hc, g1, hset, h.hz, goInt]
theorem do_entryStore (hx : ev N ρ x = .map (some b)) (hs : ev N ρ s = .int .i64 (n : Nat)) (hz : ev N ρ z = u) (hm : MapS w b kv f k n) (hn : f k = none) :
    Do P N ⟨d, .entryStore TM x s z, t, p, a, g⟩ ρ w (fun v w' => (Fr (· = b) w w' ∧ ∀ n', MapS w b kv f k n' → MapS w' b kv f k n') ∧ MapB w' b kv (fun k' => if k' = k then some u else f k')) := by
  obtain ⟨es, z0, l, h1, h2, h3, h4⟩ := hm
  have hg : (getObj b).run P w = .ok (.map (es.push { key := kv k, val := z0, born := n }) (n + 1)) w := gobj h1
  have hlt := (Array.getElem?_eq_some_iff.1 h1).1
  have hfi : (es.push { key := kv k, val := z0, born := n }).findIdx? (fun e => (e.born : Int) == (n : Int)) = some es.size := by
    rw [Array.findIdx?_push]
    have : es.findIdx? (fun e => (e.born : Int) == (n : Int)) = none := by
      rw [Array.findIdx?_eq_none_iff]
      intro e he
      have := h4 e (Array.mem_toList_iff.2 he)
      simp; omega
    rw [this]; simp
  have hmod := modify_last es { key := kv k, val := z0, born := n } (fun e => { e with val := u })
  have hset := sobj (P := P) (.map (es.push { key := kv k, val := u, born := n }) (n + 1)) h1
  have hnew : ({ w with heap := w.heap.setIfInBounds b (.map (es.push { key := kv k, val := u, born := n }) (n + 1)) } : World).heap[b]? = some (.map (es.push { key := kv k, val := u, born := n }) (n + 1)) := by
    show (w.heap.setIfInBounds b _)[b]? = _; rw [Array.getElem?_setIfInBounds_self_of_lt hlt]
  refine do_store ⟨fun _ h => (by cases h), ?_⟩ ⟨⟨fr_setObj h1 (.map (es.push { key := kv k, val := u, born := n }) (n + 1)), fun n' hn' => ?_⟩, ?_⟩
  · simp [execOp, hx, hs, hz, Instr.entryStore, Sem.run_bind, hg, asInt, asIntOf, hfi, hmod, hset]
  · obtain ⟨es', z', l', k1, _⟩ := hn'
    rw [h1] at k1
    injection k1 with k1
    injection k1 with _ k2
    have : n' = n := by omega
    subst this
    exact ⟨es, u, l, hnew, h2, h3, h4⟩
  · refine ⟨_, _, l ++ [(k, u)], hnew, ?_, fun k' => ?_, ?_⟩
    · unfold Ents at h2 ⊢
      rw [Array.toList_push, List.map_append, h2, List.map_append]; rfl
    · rw [getL_snoc k u l (fun p hp he => ?_) k', h3 k']
      have := h3 k
      rw [hn] at this
      unfold getL at this
      rw [Option.map_eq_none_iff, List.find?_eq_none] at this
      exact this p hp (decide_eq_true he)
    · intro e he
      rw [Array.toList_push, List.mem_append] at he
      rcases he with he | he
      · have := h4 e he; omega
      · simp at he; subst he; exact Nat.lt_succ_self _
end entries
theorem nat_cell {w : World} {b o c i : Nat} {O : List Nat} {x : Nat} (h : OwnS w 3 1 (some ⟨b, o, none⟩) O.length c (O.flatMap natC)) (hx : O[i]? = some x) : w.cell? ⟨b, o + i * 1, none⟩ = some (.int .i64 (x : Nat)) := by
  obtain ⟨b', o', h1, _, h3⟩ := h.sl (by decide) (l := O) (cells := natC) rfl (fun _ _ => rfl) (F := fun _ => True) (fun _ _ => trivial) i x hx
  injection h1 with h1; injection h1 with a1 a2; subst a1; subst a2
  exact h3 0 _ rfl
theorem numF_nil (k : Int) : numF [] k = none := by unfold numF; rw [if_neg (fun g => by cases g.2)]
/-- a picture that was drawn -/
theorem picR_draw {w : World} {lo i c c' : Nat} {s s' : Option Addr} {m : Mem} {l : List Vl} {O : List Nat} {C : List (List Vl)} {T : List (TE Vl)} (h : OwnS w 36 2 s (renL [] l).length c ((renL [] l).flatMap vlC)) (hg : ∀ k, ob s k → lo ≤ k) (hT : Tab w 30 36 2 vlC s' c' T) (hm : T.map (·.2.2) = C)
    (hd : C ++ drawC (cellsOfM m) (m.length + 1 - i) i O = drawC (cellsOfM m) (m.length + 1) 0 (metL [] l)) (hi : ¬ (i : Int) < (O.length : Int)) (hg' : ∀ k, tb s' T k → lo ≤ k) : PicR lo w (.agg #[.slice s (renL [] l).length c, .slice s' T.length c']) (drawP (cellsOfM m) l) := by
  rw [drawC_end (by omega), List.append_nil] at hd
  subst hm
  have e : drawP (cellsOfM m) l = (renL [] l, T.map (·.2.2)) := by unfold drawP; rw [len_M, hd]
  rw [e]
  refine ⟨s, c, s', c', by simp, h.sl (by decide) rfl (fun _ _ => rfl) (fun k hk => ⟨hg k hk, h.lt hk⟩), hT.read (by decide) (fun _ => rfl) (fun k hk => ⟨hg' k hk, hT.lt hk⟩)⟩
theorem mt_new {w : World} {lo b bm : Nat} (hB : Blk w b [.map (some bm), .slice none 0 0] 172) (hM : MapB w bm kI (fun _ => none)) (h1 : b ≠ bm) (g1 : lo ≤ b) (g2 : lo ≤ bm) : ∃ Z, MtO Z w b [] ∧ ∀ k, Z k → lo ≤ k := by
  obtain ⟨k1, k2⟩ := mt_mk (Z := fun _ => False) (lo := lo) (O := []) hB rfl (MapB.of hM (fun k => (numF_nil k).symm)) (OwnS.nil _ _ _) h1 (fun _ h => ob_none h) (fun _ h => ob_none h) (.inr g1) (.inr g2) (fun _ h => ob_none h)
  exact ⟨_, k1, fun k hk => (k2 k hk).elim False.elim id⟩
theorem vl_lt {w : World} {F : Nat → Prop} {s : Option Addr} {l : List Vl} (h : VlS F w s l) : VlS (fun k => F k ∧ k < w.heap.size) w s l := fun i x hx => by
  obtain ⟨b, o, h1, h2, h3⟩ := h i x hx
  refine ⟨b, o, h1, ⟨h2, ?_⟩, h3⟩
  have := h3 0 _ rfl
  rcases Nat.lt_or_ge b w.heap.size with g | g
  · exact g
  · unfold World.cell? at this
    rw [Array.getElem?_eq_none g] at this
    simp at this
theorem MtO.parts {Z : Nat → Prop} {w : World} {b : Nat} {O : List Nat} (h : MtO Z w b O) : ∃ (bm : Nat) (s : Option Addr) (c : Nat), Blk w b [.map (some bm), .slice s O.length c] 172 ∧ OwnS w 3 1 s O.length c (O.flatMap natC) := by
  obtain ⟨bm, s, c, h1, _, h2, _⟩ := h; exact ⟨bm, s, c, h1, h2⟩
theorem draw_on {m : Mem} {l : List Vl} {i x : Nat} {O : List Nat} {C : List (List Vl)} {y : St} (h : C ++ drawC (cellsOfM m) (m.length + 1 - i) i O = drawC (cellsOfM m) (m.length + 1) 0 (metL [] l)) (hx : O[i]? = some x) (hy : m[x]? = some y) (hi : i ≤ m.length) :
    (C ++ [renL O y.1]) ++ drawC (cellsOfM m) (m.length + 1 - (i + 1)) (i + 1) (metL O y.1) = drawC (cellsOfM m) (m.length + 1) 0 (metL [] l) := by
  rw [← h, show m.length + 1 - i = (m.length + 1 - (i + 1)) + 1 by omega, drawC_on hx, cellsAt_M, sat_of hy]
theorem PicR.fr {lo : Nat} {w w' : World} {v : Value} {p : Pic} {S : Nat → Prop} (h : PicR lo w v p) (hf : Fr S w w') (hS : ∀ k, lo ≤ k → k < w.heap.size → ¬ S k) : PicR lo w' v p := by
  obtain ⟨s, c, s', c', h1, h2, h3⟩ := h
  have hw : ∀ b, Iv lo w.heap.size b → Iv lo w'.heap.size b := fun b hb => ⟨hb.1, Nat.lt_of_lt_of_le hb.2 hf.size⟩
  refine ⟨s, c, s', c', h1, (h2.fr (vl_stab _) hf (fun k hk => hS k hk.1 hk.2)).wide hw, ?_⟩
  have h4 := h3.fr (vv_stab _) hf (fun k hk => hS k hk.1 hk.2)
  intro i x hx
  obtain ⟨b, o, g1, g2, s2, c2, g3, g4⟩ := h4 i x hx
  exact ⟨b, o, g1, hw b g2, s2, c2, g3, g4.wide hw⟩
theorem PicR.mono {lo lo' : Nat} {w : World} {v : Value} {p : Pic} (h : PicR lo w v p) (hl : lo' ≤ lo) : PicR lo' w v p := by
  obtain ⟨s, c, s', c', h1, h2, h3⟩ := h
  have hw : ∀ b, Iv lo w.heap.size b → Iv lo' w.heap.size b := fun b hb => ⟨Nat.le_trans hl hb.1, hb.2⟩
  refine ⟨s, c, s', c', h1, h2.wide hw, fun i x hx => ?_⟩
  obtain ⟨b, o, g1, g2, s2, c2, g3, g4⟩ := h3 i x hx
  exact ⟨b, o, g1, hw b g2, s2, c2, g3, g4.wide hw⟩
theorem PicR.zero (lo : Nat) (w : World) : PicR lo w (.agg #[.slice none 0 0, .slice none 0 0]) ([], []) := ⟨none, 0, none, 0, rfl, fun i x hx => by simp at hx, fun i x hx => by simp at hx⟩
/-- the picture, or the error -/
def drawR (m : Mem) (l : List Vl) : Int × Pic := if okM m = true then (if l.length ≤ 100 ∧ (l.all fun v => isVal v m.length) = true then (0, drawP (cellsOfM m) l) else (2, ([], []))) else (4, ([], []))
def DrawR (lo : Nat) (w : World) (v : Value) (r : Int × Pic) : Prop := ∃ pv, v = .tuple #[pv, .int .i64 r.1] ∧ PicR lo w pv r.2
section drawr
variable {lo : Nat} {w : World} {m : Mem} {l : List Vl} {pv : Value}
theorem drawR_chk (h : chkE m ≠ 0) : DrawR lo w (.tuple #[.agg #[.slice none 0 0, .slice none 0 0], .int .i64 (chkE m)]) (drawR m l) := by
  obtain ⟨h1, h2⟩ := chk_4 h
  unfold drawR; rw [if_neg (by rw [h1]; exact Bool.false_ne_true), h2]
  exact ⟨_, rfl, PicR.zero _ _⟩
theorem drawR_len (hok : okM m = true) (h : (100 : Int) < (l.length : Int)) : DrawR lo w (.tuple #[.agg #[.slice none 0 0, .slice none 0 0], .int .i64 2]) (drawR m l) := by
  unfold drawR; rw [if_pos hok, if_neg (fun g => by have := g.1; omega)]; exact ⟨_, rfl, PicR.zero _ _⟩
theorem drawR_val (hok : okM m = true) (h : (l.all fun v => isVal v m.length) = false) : DrawR lo w (.tuple #[.agg #[.slice none 0 0, .slice none 0 0], .int .i64 2]) (drawR m l) := by
  unfold drawR; rw [if_pos hok, if_neg (fun g => by rw [h] at g; exact Bool.false_ne_true g.2)]; exact ⟨_, rfl, PicR.zero _ _⟩
theorem drawR_ok (hok : okM m = true) (h1 : ¬ (100 : Int) < (l.length : Int)) (h2 : (l.all fun v => isVal v m.length) = true) (h : PicR lo w pv (drawP (cellsOfM m) l)) : DrawR lo w (.tuple #[pv, .int .i64 0]) (drawR m l) := by
  unfold drawR; rw [if_pos hok, if_pos ⟨by omega, h2⟩]; exact ⟨_, rfl, h⟩
theorem any_all (h : (l.any fun v => !isVal v m.length) = false) : (l.all fun v => isVal v m.length) = true := by rw [any_not] at h; simpa using h
theorem any_all' (h : (l.any fun v => !isVal v m.length) = true) : (l.all fun v => isVal v m.length) = false := by rw [any_not] at h; simpa using h
end drawr
/-- a picture whose blocks were born between I.1 and I.2 -/
def PicI (I : Nat × Nat) (w : World) (v : Value) (p : Pic) : Prop := ∃ (s : Option Addr) (c : Nat) (s' : Option Addr) (c' : Nat), v = .agg #[.slice s p.1.length c, .slice s' p.2.length c'] ∧ VlS (Iv I.1 I.2) w s p.1 ∧ VvS (Iv I.1 I.2) w s' p.2
theorem PicI.fr {I : Nat × Nat} {w w' : World} {v : Value} {p : Pic} {S : Nat → Prop} (h : PicI I w v p) (hf : Fr S w w') (hS : ∀ k, I.1 ≤ k ∧ k < I.2 → ¬ S k) : PicI I w' v p := by
  obtain ⟨s, c, s', c', h1, h2, h3⟩ := h
  exact ⟨s, c, s', c', h1, h2.fr (vl_stab _) hf (fun k hk => hS k hk), h3.fr (vv_stab _) hf (fun k hk => hS k hk)⟩
/-- is it one? -/
def isPicB (p : Pic) : Bool := okM (memC p.2) && decide (p.1.length ≤ 100) && (p.1.all fun v => isVal v p.2.length) && decide (drawP p.2 p.1 = p)
theorem cells_memC (L : List (List Vl)) : cellsOfM (memC L) = L := by unfold cellsOfM memC; rw [List.map_map]; exact List.map_id' L
theorem memC_len (L : List (List Vl)) : (memC L).length = L.length := by unfold memC; rw [List.length_map]
theorem memC_waits (L : List (List Vl)) : waits (memC L) = 0 := by
  unfold waits memC; rw [List.map_map]
  induction L with
  | nil => rfl
  | cons x L ih => rw [List.map_cons, List.sum_cons, ih]; rfl
theorem memC_Bm {L : List (List Vl)} (h1 : L.length ≤ 1048576) (h2 : ∀ l ∈ L, l.length ≤ 1048576) : Bm (memC L) := by
  refine ⟨by rw [memC_len]; exact h1, fun s hs => ?_, by rw [memC_waits]; omega⟩
  unfold memC at hs
  obtain ⟨l, hl, rfl⟩ := List.mem_map.1 hs
  exact ⟨h2 l hl, Nat.zero_le _⟩
theorem isPic_t {p : Pic} (h : (drawR (memC p.2) p.1).1 = 0) : Value.bool (decide (p = (drawR (memC p.2) p.1).2)) = .bool (isPicB p) := by
  unfold drawR at h ⊢
  unfold isPicB
  by_cases h1 : okM (memC p.2) = true
  · rw [if_pos h1] at h ⊢
    by_cases h2 : p.1.length ≤ 100 ∧ (p.1.all fun v => isVal v (memC p.2).length) = true
    · rw [if_pos h2]
      rw [memC_len] at h2
      rw [h1, decide_eq_true h2.1, h2.2, cells_memC]
      simp only [Bool.true_and]
      congr 1; rw [decide_eq_decide]; exact eq_comm
    · rw [if_neg h2] at h; cases h
  · rw [if_neg h1] at h; cases h
theorem isPic_f {p : Pic} (h : ¬ (drawR (memC p.2) p.1).1 = 0) : Value.bool false = .bool (isPicB p) := by
  unfold drawR at h
  unfold isPicB
  by_cases h1 : okM (memC p.2) = true
  · rw [if_pos h1] at h
    by_cases h2 : p.1.length ≤ 100 ∧ (p.1.all fun v => isVal v (memC p.2).length) = true
    · rw [if_pos h2] at h; exact absurd rfl h
    · rw [memC_len] at h2
      congr 1
      rw [h1]
      by_cases g1 : p.1.length ≤ 100
      · have g2 : ¬ (p.1.all fun v => isVal v p.2.length) = true := fun g2 => h2 ⟨g1, g2⟩
        rw [Bool.not_eq_true] at g2
        rw [g2]; simp
      · rw [decide_eq_false g1]; simp
  · rw [Bool.not_eq_true] at h1; rw [h1]; rfl
theorem pic_dec1 {p q : Pic} (h : p.1 = q.1) : Value.bool (decide (p.2 = q.2)) = .bool (decide (p = q)) := by
  congr 1; rw [decide_eq_decide]; exact ⟨fun g => Prod.ext h g, fun g => by rw [g]⟩
theorem drawP_Bp {A : List (List Vl)} {l : List Vl} (hA : allIn A) (hl : refsIn A.length l) (h1 : A.length ≤ 1048576) (h2 : ∀ x ∈ A, x.length ≤ 1048576) (h3 : l.length ≤ 1048576) : Bp (drawP A l) := by
  rw [drawP_eq hA hl]
  refine ⟨by rw [List.length_map]; exact h3, ?_, fun x hx => ?_⟩
  · rw [List.length_map]
    exact Nat.le_trans (nodup_le A.length _ (fullO_nodup A l) (fullO_lt hA hl)) h1
  · obtain ⟨s, hs, rfl⟩ := List.mem_map.1 hx
    rw [List.length_map]
    have hs2 := fullO_lt hA hl s hs
    have : cellsAt A s ∈ A := by unfold cellsAt; rw [List.getD_eq_getElem?_getD, List.getElem?_eq_getElem hs2]; exact List.getElem_mem hs2
    exact h2 _ this
theorem drawR_Bp {m : Mem} {l : List Vl} (hB : Bm m) (hl : l.length ≤ 1048576) : Bp (drawR m l).2 := by
  have hz : Bp ([], []) := ⟨Nat.zero_le _, Nat.zero_le _, fun x hx => by cases hx⟩
  unfold drawR
  split
  · rename_i h1
    split
    · rename_i h2
      refine drawP_Bp (allIn_M h1) (by rw [len_M]; exact vals_refs h2.2) (by rw [len_M]; exact hB.1) (fun x hx => ?_) hl
      unfold cellsOfM at hx
      obtain ⟨s, hs, rfl⟩ := List.mem_map.1 hx
      exact (hB.2.1 s hs).1
    · exact hz
  · exact hz

/-! Operations by their names: the program's. -/
def nmB (k : Nat) : ByteArray := nameL.getD k ⟨#[]⟩
def idS (nm : ByteArray) : Option Nat :=
  if nm = nmB 9 then some 9 else if nm = nmB 8 then some 8 else if nm = nmB 7 then some 7 else if nm = nmB 6 then some 6 else if nm = nmB 5 then some 5 else if nm = nmB 4 then some 4 else if nm = nmB 3 then some 3 else if nm = nmB 2 then some 2 else if nm = nmB 1 then some 1 else if nm = nmB 0 then some 0 else none
def fidN (k : Nat) : Nat := [124, 126, 127, 128, 131, 133, 134, 136, 137, 138].getD k 0
def kindC (k : Nat) : List Int := if k = 8 then [1, 2] else if k = 9 then [2] else [1]
def kbN (bI bE bN k : Nat) : Nat := if k = 8 then bE else if k = 9 then bN else bI
def opV (bI bE bN k : Nat) : Value := .agg #[.int .i64 (arity k : Nat), .slice (some ⟨kbN bI bE bN k, 0, none⟩) (kindC k).length (kindC k).length, .func (.func (fidN k)) #[] #[]]
def u8C (z : Int) : List Value := [.int .u8 z]
def opF (bI bE bN : Nat) (nm : ByteArray) : Option Value := (idS nm).map (opV bI bE bN)
theorem idS_lt {nm : ByteArray} {k : Nat} (h : idS nm = some k) : k < 10 ∧ nm = nmB k := by
  unfold idS at h
  repeat' (split at h; · rename_i g; injection h with h; subst h; exact ⟨by omega, g⟩)
  cases h
theorem kind_has (k : Nat) (x : Int) : ((kindC k).any fun y => decide (x = y)) = kindB k x := by
  unfold kindC kindB
  split
  · simp
  · split <;> simp
theorem kindC_len (k : Nat) : (kindC k).length ≤ 1048576 := by unfold kindC; split <;> (try split) <;> simp
theorem u8_sl {w : World} {b : Nat} {l : List Int} {T : TypeId} (h : Blk w b (l.map (Value.int .u8)) T) : Sl (fun _ => True) w (some ⟨b, 0, none⟩) 1 l (Fl u8C) := fun i x hx => by
  refine ⟨b, 0, rfl, trivial, fun j v hj => ?_⟩
  cases j with
  | zero =>
    refine h.cell _ ?_
    have : v = .int .u8 x := by simpa [u8C] using hj.symm
    subst this
    rw [show 0 + i * 1 + 0 = i by omega, List.getElem?_map, hx]; rfl
  | succ j => simp [u8C] at hj
theorem u8_stab (F : Nat → Prop) : Stab F (Fl u8C) := Fl.stab F u8C
section prim
variable {k : Nat} {l : List Vl} {x y : Vl}
theorem idx_at {α : Type} {q : α → Bool} {l : List α} {z : Int} (h : IdxR q l z) (hz : z ≥ 0) : ∃ (i : Nat) (x : α), z = (i : Int) ∧ l[i]? = some x ∧ q x = true ∧ (l.take i).any q = false := by
  rcases h with ⟨h1, _⟩ | h
  · omega
  · exact h
theorem idx_no {α : Type} {q : α → Bool} {l : List α} {z : Int} (h : IdxR q l z) (hz : ¬ z ≥ 0) : l.any q = false := by
  rcases h with ⟨_, h⟩ | ⟨i, x, rfl, _⟩
  · exact h
  · omega
theorem find_first {α : Type} {q : α → Bool} : ∀ {l : List α} {i : Nat} {x : α}, l[i]? = some x → q x = true → (l.take i).any q = false → l.find? q = some x
  | [], i, x, h, _, _ => by simp at h
  | a :: l, 0, x, h, hq, _ => by simp at h; subst h; rw [List.find?_cons, hq]
  | a :: l, i + 1, x, h, hq, ht => by
    rw [List.take_succ_cons, List.any_cons, Bool.or_eq_false_iff] at ht
    rw [List.find?_cons, ht.1]
    exact find_first (by simpa using h) hq ht.2
theorem find_none {α : Type} {q : α → Bool} {l : List α} (h : l.any q = false) : l.find? q = none := by
  rw [List.find?_eq_none]; intro x hx g
  rw [List.any_eq_false] at h
  exact h x hx g
theorem prim_hole (h : l.any holeB = true) : vlV (0, 0) = vlV (primV k l) := by unfold primV; rw [if_pos h]
theorem prim_bad {i : Nat} (h : l.any holeB = false) (hx : l[i]? = some x) (hq : badB x = true) (ht : (l.take i).any badB = false) : vlV x = vlV (primV k l) := by
  unfold primV; rw [if_neg (by rw [h]; exact Bool.false_ne_true), find_first hx hq ht]
theorem prim_rest (h : l.any holeB = false) (hb : l.any badB = false) (hx : l[0]? = some x) (hy : l[l.length - 1]? = some y) : primV k l = if x.1 = y.1 ∧ kindB k x.1 = true then workV k x.2 y.2 else (5, 5) := by
  unfold primV; rw [if_neg (by rw [h]; exact Bool.false_ne_true), find_none hb]
  have e1 : l.headD (0, 0) = x := by
    cases l with
    | nil => simp at hx
    | cons a l => simpa using hx
  have e2 : lastV l = y := by
    unfold lastV; rw [List.getLastD_eq_getLast?, List.getLast?_eq_getElem?, hy]; rfl
  rw [e1, e2]
theorem isValA_b {v : Vl} (h : isValA v = true) (hk : v.1 = 1 ∨ v.1 = 2) : -1000000000 ≤ v.2 ∧ v.2 ≤ 1000000000 := by
  rcases hk with h1 | h2
  · exact isValA_int h h1
  · unfold isValA at h; rw [if_neg (by omega)] at h
    unfold isVal at h; rw [if_neg (by omega), if_neg (by omega), if_pos h2] at h
    have := of_decide_eq_true h; omega
theorem kindB_12 {x : Int} (h : kindB k x = true) : x = 1 ∨ x = 2 := by
  unfold kindB at h
  split at h
  · exact of_decide_eq_true h
  · split at h <;> (have := of_decide_eq_true h; omega)
end prim
/-- the result of an operation, or the error -/
def primS (nm : ByteArray) (l : List Vl) : Vl × Int :=
  match idS nm with
  | none => ((0, 0), 10)
  | some k => if l.length ≠ arity k then ((0, 0), 2) else if l.all isValA = true then (primV k l, 0) else ((0, 0), 4)
theorem look_op (bI bE bN : Nat) (z : Value) (nm : ByteArray) : (idS nm = none ∧ Value.tuple #[(opF bI bE bN nm).getD z, .bool (opF bI bE bN nm).isSome] = .tuple #[z, .bool false]) ∨
    ∃ k, idS nm = some k ∧ Value.tuple #[(opF bI bE bN nm).getD z, .bool (opF bI bE bN nm).isSome] = .tuple #[opV bI bE bN k, .bool true] := by
  unfold opF
  cases h : idS nm with
  | none => exact .inl ⟨rfl, rfl⟩
  | some k => exact .inr ⟨k, rfl, rfl⟩
theorem sz_no {z : Int} (h : ¬ (-1000000000 ≤ z ∧ z ≤ 1000000000)) : Value.agg #[.int .u8 5, .int .i64 2] = vlV (sizedV z) := by unfold sizedV; rw [if_neg h]; rfl
theorem sz_yes {z : Int} (h : -1000000000 ≤ z ∧ z ≤ 1000000000) : Value.agg #[.int .u8 1, .int .i64 z] = vlV (sizedV z) := by unfold sizedV; rw [if_pos h]; rfl
def divV (b z : Int) : Vl := if b = 0 then (5, 1) else sizedV z
theorem dv_0 {b z : Int} (h : b = 0) : Value.agg #[.int .u8 5, .int .i64 1] = vlV (divV b z) := by unfold divV; rw [if_pos h]; rfl
theorem dv_1 {b z : Int} (h : ¬ b = 0) : vlV (sizedV z) = vlV (divV b z) := by unfold divV; rw [if_neg h]
theorem map_op {bI bE bN : Nat} (nm : ByteArray) : (if nm = nmB 9 then some (opV bI bE bN 9) else if nm = nmB 8 then some (opV bI bE bN 8) else if nm = nmB 7 then some (opV bI bE bN 7) else if nm = nmB 6 then some (opV bI bE bN 6) else if nm = nmB 5 then some (opV bI bE bN 5) else if nm = nmB 4 then some (opV bI bE bN 4) else if nm = nmB 3 then some (opV bI bE bN 3) else if nm = nmB 2 then some (opV bI bE bN 2) else if nm = nmB 1 then some (opV bI bE bN 1) else if nm = nmB 0 then some (opV bI bE bN 0) else none) = opF bI bE bN nm := by
  unfold opF idS
  repeat' (first | rfl | split)
section primx
variable {nm : ByteArray} {l : List Vl} {k : Nat}
theorem ps_name (h : idS nm = none) : Value.tuple #[.agg #[.int .u8 0, .int .i64 0], .int .i64 10] = .tuple #[vlV (primS nm l).1, .int .i64 (primS nm l).2] := by unfold primS; rw [h]; rfl
theorem ps_arg (h : idS nm = some k) (hl : ¬ (l.length : Int) = (arity k : Int)) : Value.tuple #[.agg #[.int .u8 0, .int .i64 0], .int .i64 2] = .tuple #[vlV (primS nm l).1, .int .i64 (primS nm l).2] := by
  unfold primS; rw [h]; simp only; rw [if_pos (by omega)]; rfl
theorem ps_form (h : idS nm = some k) (hl : (l.length : Int) = (arity k : Int)) (hv : (l.any fun v => !isValA v) = true) : Value.tuple #[.agg #[.int .u8 0, .int .i64 0], .int .i64 4] = .tuple #[vlV (primS nm l).1, .int .i64 (primS nm l).2] := by
  rw [any_not] at hv
  unfold primS; rw [h]; simp only; rw [if_neg (by omega), if_neg (by simpa using hv)]; rfl
theorem ps_ok (h : idS nm = some k) (hl : (l.length : Int) = (arity k : Int)) (hv : (l.any fun v => !isValA v) = false) : Value.tuple #[vlV (primV k l), .int .i64 0] = .tuple #[vlV (primS nm l).1, .int .i64 (primS nm l).2] := by
  rw [any_not] at hv
  unfold primS; rw [h]; simp only; rw [if_neg (by omega), if_pos (by simpa using hv)]
end primx
theorem arity_pos (k : Nat) : 0 < arity k ∧ arity k ≤ 2 := by unfold arity; split <;> omega
theorem wk_no {k : Nat} {l : List Vl} {x y : Vl} (h : l.any holeB = false) (hb : l.any badB = false) (hx : l[0]? = some x) (hy : l[l.length - 1]? = some y) (hn : ¬ (x.1 = y.1 ∧ kindB k x.1 = true)) : Value.agg #[.int .u8 5, .int .i64 5] = vlV (primV k l) := by
  rw [prim_rest h hb hx hy, if_neg hn]; rfl
theorem wk_yes {k : Nat} {l : List Vl} {x y : Vl} (h : l.any holeB = false) (hb : l.any badB = false) (hx : l[0]? = some x) (hy : l[l.length - 1]? = some y) (hn : x.1 = y.1 ∧ kindB k x.1 = true) : vlV (workV k x.2 y.2) = vlV (primV k l) := by
  rw [prim_rest h hb hx hy, if_pos hn]
section tdivs
variable {P : Program} {N : Nat} {ρ : Nat → Value} {w : World} {d : Option Tmp} {t : TypeId} {p : String} {a : Array Edge} {g : Option (Nat × Bool)} {x y : Operand} {T Ty : TypeId} {m n : Int}
theorem rn_tquo (hx : ev N ρ x = .int .i64 m) (hy : ev N ρ y = .int .i64 n) (h : -1000000000 ≤ m ∧ m ≤ 1000000000) (hn : n ≠ 0) : Rn P N ⟨d, .binOp .quo T x y Ty, t, p, a, g⟩ ρ w (.int .i64 (m.tdiv n)) w :=
  rn_bin hx hy (by
    have h1 := abs_tdiv m n h
    simp [binOp, Op.intDiv, hn, wrap64_in (show -9223372036854775808 ≤ m.tdiv n by omega) (by omega)])
theorem rn_trem (hx : ev N ρ x = .int .i64 m) (hy : ev N ρ y = .int .i64 n) (h : -1000000000 ≤ m ∧ m ≤ 1000000000) (hn : n ≠ 0) : Rn P N ⟨d, .binOp .rem T x y Ty, t, p, a, g⟩ ρ w (.int .i64 (m.tmod n)) w :=
  rn_bin hx hy (by
    have h1 := abs_tmod m n h
    simp [binOp, Op.intDiv, hn, wrap64_in (show -9223372036854775808 ≤ m.tmod n by omega) (by omega)])
end tdivs
theorem mul_bd {a b : Int} (ha : -1000000000 ≤ a ∧ a ≤ 1000000000) (hb : -1000000000 ≤ b ∧ b ≤ 1000000000) : -9223372036854775808 ≤ a * b ∧ a * b ≤ 9223372036854775807 := by
  have h1 : (a.natAbs : Int) ≤ 1000000000 := by omega
  have h2 : (b.natAbs : Int) ≤ 1000000000 := by omega
  have h3 : (a * b).natAbs = a.natAbs * b.natAbs := Int.natAbs_mul a b
  have h4 : a.natAbs * b.natAbs ≤ 1000000000 * 1000000000 := Nat.mul_le_mul (by omega) (by omega)
  omega
section pv
variable {z : Vl}
theorem pv_kn (h : ¬ z.1 = 4) : isValA z = isVal z 0 := if_neg h
theorem pv_ky (h : z.1 = 4) : isValA z = decide (0 ≤ z.2) := if_pos h
theorem pv_b (h4 : z.1 ≠ 4) (hv : isVal (z.1, z.2) ((0 : Nat) : Int) = false) : Value.bool true = .bool (!isValA z) := by rw [pv_kn h4, show isVal z 0 = false from hv]; rfl
theorem pv_c (h4 : ¬ z.1 ≠ 4) (hn : z.2 < 0) : Value.bool true = .bool (!isValA z) := by rw [pv_ky (Decidable.not_not.1 h4), decide_eq_false (by omega)]; rfl
theorem pv_d (h4 : ¬ z.1 ≠ 4) (hn : ¬ z.2 < 0) : Value.bool false = .bool (!isValA z) := by rw [pv_ky (Decidable.not_not.1 h4), decide_eq_true (by omega)]; rfl
theorem pv_e (h4 : z.1 ≠ 4) (hv : isVal (z.1, z.2) ((0 : Nat) : Int) = true) (hn : ¬ z.2 < 0) : Value.bool false = .bool (!isValA z) := by rw [pv_kn h4, show isVal z 0 = true from hv]; rfl
theorem pv_f (h4 : z.1 ≠ 4) (hv : isVal (z.1, z.2) ((0 : Nat) : Int) = true) : Value.bool (decide (z.1 = 4)) = .bool (!isValA z) := by rw [pv_kn h4, show isVal z 0 = true from hv, decide_eq_false h4]; rfl
theorem pv_g (h4 : ¬ z.1 ≠ 4) (hn : z.2 < 0) : Value.bool (decide (z.1 = 4)) = .bool (!isValA z) := by rw [pv_ky (Decidable.not_not.1 h4), decide_eq_true (Decidable.not_not.1 h4), decide_eq_false (by omega)]; rfl
end pv
theorem k10 {k : Nat} (h : k < 10) : k = 0 ∨ k = 1 ∨ k = 2 ∨ k = 3 ∨ k = 4 ∨ k = 5 ∨ k = 6 ∨ k = 7 ∨ k = 8 ∨ k = 9 := by omega

/-! Texts of pictures. -/
open Go.Lib
section ptrs
variable {P : Program} {N : Nat} {ρ : Nat → Value} {w : World} {d : Option Tmp} {t : TypeId} {p : String} {a : Array Edge} {g : Option (Nat × Bool)} {x y : Operand} {T Ty E : TypeId} {s : Option Addr}
theorem eq_same {ad : Addr} {n : Nat} (hz : ∀ w, (sizeOf E).run P w = .ok n w) (ht : P.underlying T = some (.pointer E)) : (Op.equal T (.pointer (some ad)) (.pointer (some ad))).run P w = .ok true w := by
  show (Op.equalIn (9999 + 1) T _ _).run P w = _
  unfold Op.equalIn
  rw [Sem.run_bind, run_underlying ht]
  simp only [Result.andThen_ok]
  simp [hz, sameAddr]
theorem rn_neqSame {ad : Addr} {n : Nat} (hz : ∀ w, (sizeOf E).run P w = .ok n w) (ht : P.underlying T = some (.pointer E)) (hx : ev N ρ x = .pointer (some ad)) (hy : ev N ρ y = .pointer (some ad)) :
    Rn P N ⟨d, .binOp .neq T x y Ty, t, p, a, g⟩ ρ w (.bool false) w :=
  ⟨fun _ h => (by cases h), by
    have he : (eqGuard .neq T x y (.pointer (some ad)) (.pointer (some ad))).run P w = .ok () w := by unfold eqGuard; simp
    have hb : binOp .neq T (.pointer (some ad)) (.pointer (some ad)) = (do pure (.bool (!(← Op.equal T (.pointer (some ad)) (.pointer (some ad)))))) := by unfold binOp; rfl
    simp only [execOp, hx, hy, Sem.run_bind, he, Result.andThen_ok, hb, eq_same hz ht, Sem.run_pure]; rfl⟩
theorem rn_toUnsafe {src dst tt e : TypeId} {cells n by_ : Nat} {z : List Value} {ad : Addr} (hx : ev N ρ x = .pointer (some ad)) (hs : P.underlying src = some (.pointer tt)) (hd : P.underlying dst = some .unsafePointer) (ht : TI P tt z n by_) (hj : n ≠ 0) (hsh : w.shape? ad.block = some (e, cells)) (hoff : ad.off < cells) :
    Rn P N ⟨d, .convert src dst x, t, p, a, g⟩ ρ w (.pointer (some ad)) w := ⟨fun _ h => (by cases h), by
      obtain ⟨j, u, h1, _, _, h4, _⟩ := ht
      have := Lib.run_to_unsafe (P := P) w ad hs hd h1 (by rw [h4]; exact hj) hsh hoff
      simp [execOp, hx, this]⟩
theorem rn_fromUnsafe {src dst u e : TypeId} {cells n by_ : Nat} {z : List Value} {ad : Addr} (hx : ev N ρ x = .pointer (some ad)) (hs : P.underlying src = some .unsafePointer) (hd : P.underlying dst = some (.pointer u)) (hu : TI P u z n by_) (hsh : w.shape? ad.block = some (e, cells)) (hl : liesAt P P.depth e (cells / P.cellsOf e) ad.off u 1 = true) :
    Rn P N ⟨d, .convert src dst x, t, p, a, g⟩ ρ w (.pointer (some ad)) w := ⟨fun _ h => (by cases h), by
      obtain ⟨j, _, h1, _⟩ := hu
      have := Lib.run_from_unsafe (P := P) w ad hs hd h1 hsh hl
      simp [execOp, hx, this]⟩
theorem rn_noEscape {f : FuncId} {v : Value} {Ts : Array TypeId} (hx : ev N ρ x = v) (hf : ∀ args w, (callFunc f args).run P w = ((Extern.AbiNoEscape.same args).run P w).andThen fun v w' => .ok (.value v) w') :
    Rn P N ⟨d, .call { callee := .value (.func f), args := #[x], argTypes := Ts }, t, p, a, g⟩ ρ w v w := ⟨fun _ h => (by cases h), by
      subst hx
      have h2 := hf #[ev N ρ x] w
      rw [Lib.run_noEscape] at h2
      simp [execOp, resolve, ev, Deferred.ofValue, invoke]
      simpa [ev] using h2⟩
theorem blk_shape {b : Nat} {cs : List Value} {TT : TypeId} (h : Blk w b cs TT) : w.shape? b = some (TT, cs.length) := by
  unfold Blk at h; simp [World.shape?, h]
end ptrs
def byL (bs : List UInt8) : List Value := bs.map fun b => .int .u8 (b.toNat : Nat)
theorem byL_app (a b : List UInt8) : byL (a ++ b) = byL a ++ byL b := List.map_append
/-- What is shown, being written: bs so far, of the cells A. -/
def SH (Z : Nat → Prop) (w : World) (b : Nat) (bs : List UInt8) (sk : Option Addr) (nk ck : Nat) : Prop :=
  ∃ (ad s : Option Addr) (c : Nat), Blk w b [.pointer ad, .slice s bs.length c, .slice sk nk ck] 149 ∧ (ad = none ∨ ad = some ⟨b, 0, none⟩) ∧ OwnS w 5 1 s bs.length c (byL bs) ∧ (∀ g o sp, s = some ⟨g, o, sp⟩ → o = 0 ∧ sp = none ∧ 0 < c) ∧ (∀ k, ob s k → k ≠ b) ∧ Z b ∧ (∀ k, ob s k → Z k) ∧ ∀ k, Z k → k < w.heap.size
section sh
variable {Z : Nat → Prop} {w w' : World} {b : Nat} {bs : List UInt8} {sk : Option Addr} {nk ck : Nat}
theorem SH.lt (h : SH Z w b bs sk nk ck) {k : Nat} (hk : Z k) : k < w.heap.size := by obtain ⟨_, _, _, _, _, _, _, _, _, _, h⟩ := h; exact h k hk
theorem SH.fr (h : SH Z w b bs sk nk ck) {S : Nat → Prop} (hf : Fr S w w') (hS : ∀ k, Z k → ¬ S k) : SH Z w' b bs sk nk ck := by
  obtain ⟨ad, s, c, h1, h2, h3, h4, h5, h6, h7, h8⟩ := h
  exact ⟨ad, s, c, h1.fr hf (hS b h6), h2, h3.fr hf (fun k hk => hS k (h7 k hk)), h4, h5, h6, h7, fun k hk => Nat.lt_of_lt_of_le (h8 k hk) hf.size⟩
theorem SH.ext (h : SH Z w b bs sk nk ck) (hf : Ext w w') : SH Z w' b bs sk nk ck := h.fr hf (fun _ _ hn => hn)
theorem SH.in (h : SH Z w b bs sk nk ck) : Z b := by obtain ⟨_, _, _, _, _, _, _, _, h, _⟩ := h; exact h
theorem SH.parts (h : SH Z w b bs sk nk ck) : ∃ (ad s : Option Addr) (c : Nat), Blk w b [.pointer ad, .slice s bs.length c, .slice sk nk ck] 149 ∧ OwnS w 5 1 s bs.length c (byL bs) ∧ (∀ g o sp, s = some ⟨g, o, sp⟩ → o = 0 ∧ sp = none ∧ 0 < c) ∧ ∀ k, ob s k → Z k := by
  obtain ⟨ad, s, c, h1, h2, h3, h4, h5, h6, h7, h8⟩ := h; exact ⟨ad, s, c, h1, h3, h4, h7⟩
theorem sh_mk {lo n c : Nat} {ad s : Option Addr} (hB : Blk w b [.pointer ad, .slice s n c, .slice sk nk ck] 149) (hn : n = bs.length) (had : ad = none ∨ ad = some ⟨b, 0, none⟩) (hO : OwnS w 5 1 s n c (byL bs)) (h0 : ∀ g o sp, s = some ⟨g, o, sp⟩ → o = 0 ∧ sp = none ∧ 0 < c) (h1 : ∀ k, ob s k → k ≠ b) (g1 : Z b ∨ lo ≤ b) (g2 : ∀ k, ob s k → Z k ∨ lo ≤ k) :
    ∃ Z2, SH Z2 w b bs sk nk ck ∧ ∀ k, Z2 k → Z k ∨ lo ≤ k := by
  subst hn
  exact ⟨fun k => (Z k ∨ lo ≤ k) ∧ k < w.heap.size, ⟨ad, s, c, hB, had, hO, h0, h1, ⟨g1, hB.lt⟩, fun k hk => ⟨g2 k hk, hO.lt hk⟩, fun k hk => hk.2⟩, fun k hk => hk.1⟩
end sh
/-- what a writing leaves: the bytes bs' -/
def OutS (Z : Nat → Prop) (lo b : Nat) (w : World) (sk : Option Addr) (nk ck : Nat) (Q : List UInt8 → Prop) : Prop := ∃ (bs' : List UInt8) (Z2 : Nat → Prop), Q bs' ∧ SH Z2 w b bs' sk nk ck ∧ ∀ k, Z2 k → Z k ∨ lo ≤ k
/-- the text of an integer -/
def digB (n : Nat) : UInt8 := (48 + n % 10).toUInt8
def decN : Nat → Nat → List UInt8
  | 0, _ => []
  | f + 1, n => if n < 10 then [digB n] else decN f (n / 10) ++ [digB n]
def decB (n : Int) : List UInt8 := if n < 0 then 45 :: decN 20 n.natAbs else decN 20 n.natAbs
def badT (n : Int) : List UInt8 := if n = 1 then [122, 101, 114, 111, 33] else if n = 2 then [114, 97, 110, 103, 101, 33] else if n = 3 then [105, 110, 100, 101, 120, 33] else if n = 4 then [115, 105, 122, 101, 33] else [107, 105, 110, 100, 33]
def joinN (f : Vl → List UInt8) (l : List Vl) (n : Nat) : List UInt8 := (List.range n).flatMap fun i => (if 0 < i then [44, 32] else []) ++ f (l.getD i (0, 0))
def txV (A : List (List Vl)) : Nat → Vl → List UInt8
  | 0, v => if v.1 = 1 then decB v.2 else if v.1 = 2 then (if v.2 = 1 then [116, 114, 117, 101] else [102, 97, 108, 115, 101]) else if v.1 = 3 then [110, 105, 108] else if v.1 = 5 then badT v.2 else if v.1 = 4 then [46, 46] else [63]
  | d + 1, v => if v.1 = 1 then decB v.2 else if v.1 = 2 then (if v.2 = 1 then [116, 114, 117, 101] else [102, 97, 108, 115, 101]) else if v.1 = 3 then [110, 105, 108] else if v.1 = 5 then badT v.2 else if v.1 = 4 then [91] ++ joinN (txV A d) (cellsAt A (num v)) (cellsAt A (num v)).length ++ [93] else [63]
def Cut (a b : List UInt8) : Prop := a = b ∨ (2500 < a.length ∧ 2500 < b.length)
section cut
variable {a b c : List UInt8}
theorem Cut.refl (a : List UInt8) : Cut a a := .inl rfl
theorem Cut.app (h : Cut a b) (c : List UInt8) : Cut (a ++ c) (b ++ c) := by
  rcases h with rfl | ⟨h1, h2⟩
  · exact .inl rfl
  · exact .inr ⟨by rw [List.length_append]; omega, by rw [List.length_append]; omega⟩
theorem Cut.trans (h : Cut a b) (h' : Cut b c) : Cut a c := by
  rcases h with rfl | ⟨h1, h2⟩
  · exact h'
  · rcases h' with rfl | ⟨h3, h4⟩
    · exact .inr ⟨h1, h2⟩
    · exact .inr ⟨h1, h4⟩
theorem Cut.full (h : Cut a b) (ha : 2500 < a.length) (c : List UInt8) : Cut a (b ++ c) := by
  refine .inr ⟨ha, ?_⟩
  rw [List.length_append]
  rcases h with rfl | ⟨_, h2⟩ <;> omega
theorem joinN_0 (f : Vl → List UInt8) (l : List Vl) : joinN f l 0 = [] := rfl
theorem joinN_on {f : Vl → List UInt8} {l : List Vl} {i : Nat} {v : Vl} (h : l[i]? = some v) : joinN f l (i + 1) = joinN f l i ++ ((if 0 < i then [44, 32] else []) ++ f v) := by
  unfold joinN
  rw [List.range_succ, List.flatMap_append, List.flatMap_cons, List.flatMap_nil, List.append_nil, List.getD_eq_getElem?_getD, h]; rfl
theorem joinN_more (f : Vl → List UInt8) (l : List Vl) (i n : Nat) (h : i ≤ n) : ∃ c, joinN f l n = joinN f l i ++ c := by
  obtain ⟨k, rfl⟩ : ∃ k, n = i + k := ⟨n - i, by omega⟩
  unfold joinN
  rw [List.range_add, List.flatMap_append]; exact ⟨_, rfl⟩
end cut
theorem rn_lenS {P : Program} {N : Nat} {ρ : Nat → Value} {w : World} {d : Option Tmp} {t : TypeId} {p : String} {a : Array Edge} {g : Option (Nat × Bool)} {x : Operand} {T : TypeId} {s : ByteArray} (ht : P.underlying T = some .string) (hx : ev N ρ x = .string s) :
    Rn P N ⟨d, .call { callee := .builtin .len, args := #[x], argTypes := #[T] }, t, p, a, g⟩ ρ w (.int .i64 (s.size : Nat)) w :=
  ⟨fun _ h => (by cases h), by simp [execOp, resolve, hx, invoke, builtin, Builtin.len_, run_underlying ht, goInt]⟩
theorem sz_str (s : ByteArray) : s.data.toList.length = s.size := Array.length_toList
theorem own_str {w : World} {s : Option Addr} {c n : Nat} {bs : List UInt8} {str : ByteArray} (h : OwnS w 5 1 s n c (byL bs ++ strCells str)) : OwnS w 5 1 s n c (byL (bs ++ str.data.toList)) := by rw [byL_app]; exact h
/-- where the buffer lies, after more was written -/
theorem buf_at {w : World} {s s' : Option Addr} {c c' : Nat} (h0 : ∀ g o sp, s = some ⟨g, o, sp⟩ → o = 0 ∧ sp = none ∧ 0 < c) (h : (s' = s ∧ c' = c) ∨ (s' = some ⟨w.heap.size, 0, none⟩ ∧ 0 < c')) : ∀ g o sp, s' = some ⟨g, o, sp⟩ → o = 0 ∧ sp = none ∧ 0 < c' := by
  rcases h with ⟨rfl, rfl⟩ | ⟨rfl, h⟩
  · exact h0
  · intro g o sp e; injection e with e; injection e with e1 e2 e3; exact ⟨e2.symm, e3.symm, h⟩
/-- what can be shown -/
def VOk (A : List (List Vl)) (v : Vl) : Prop := (v.1 = 4 → 0 ≤ v.2 ∧ num v < A.length) ∧ (v.1 = 5 → 1 ≤ v.2 ∧ v.2 ≤ 5)
def ItP (P : Program) (T : World → Prop) (f : FuncId) (v : Vl) : Prop := v.1 = 1 → ∀ w, T w → CT P f [.int .i64 v.2] w no (fun u _ => u = .string ⟨(decB v.2).toArray⟩)
structure ShowOk (P : Program) (A : List (List Vl)) (Ok : Vl → Prop) (G : Nat → Prop) (T : World → Prop) : Prop where
  st : ∀ {S : Nat → Prop} {w w' : World}, Fr S w w' → (∀ k, G k → ¬ S k) → T w → T w'
  ok : ∀ v, Ok v → VOk A v ∧ ItP P T 156 v
  cells : ∀ l ∈ A, l.length ≤ 1048576 ∧ ∀ v ∈ l, Ok v
def QV (A : List (List Vl)) (bs : List UInt8) (d : Nat) (v : Vl) (bs' : List UInt8) : Prop := Cut bs' (bs ++ txV A d v) ∧ bs.length ≤ bs'.length ∧ bs'.length ≤ max bs.length 2500 + 30 * (d + 1)
def QL (A : List (List Vl)) (bs : List UInt8) (d : Nat) (l : List Vl) (n : Nat) (bs' : List UInt8) : Prop := Cut bs' (bs ++ joinN (txV A d) l n) ∧ bs.length ≤ bs'.length ∧ bs'.length ≤ max bs.length (2532 + 30 * d)
def ValsP (P : Program) (A : List (List Vl)) (b : Nat) (sk : Option Addr) (ck : Nat) (G : Nat → Prop) (Ok : Vl → Prop) (T : World → Prop) (d : Nat) : Prop :=
  ∀ (Z : Nat → Prop) (bs : List UInt8) (l : List Vl) (s : Option Addr) (c : Nat) (F : Nat → Prop) (w : World), (∀ k, F k → ¬ Z k) → (∀ k, F k → k < w.heap.size) → (∀ k, G k → ¬ Z k) → (∀ k, G k → k < w.heap.size) → (∀ v ∈ l, Ok v) → l.length ≤ 1048576 → bs.length ≤ 10000 → SH Z w b bs sk A.length ck → VlS F w s l → VvS G w sk A → T w →
    CT P 95 [.pointer (some ⟨b, 0, none⟩), .slice s l.length c, .int .i64 (d : Nat)] w Z (fun _ w' => OutS Z w.heap.size b w' sk A.length ck (QL A bs d l l.length))
def ValP (P : Program) (A : List (List Vl)) (b : Nat) (sk : Option Addr) (ck : Nat) (G : Nat → Prop) (Ok : Vl → Prop) (T : World → Prop) (d : Nat) : Prop :=
  ∀ (Z : Nat → Prop) (bs : List UInt8) (v : Vl) (w : World), (∀ k, G k → ¬ Z k) → (∀ k, G k → k < w.heap.size) → Ok v → bs.length ≤ 9000 → SH Z w b bs sk A.length ck → VvS G w sk A → T w →
    CT P 144 [.pointer (some ⟨b, 0, none⟩), vlV v, .int .i64 (d : Nat)] w Z (fun _ w' => OutS Z w.heap.size b w' sk A.length ck (QV A bs d v))
section txs
variable {A : List (List Vl)} {d : Nat} {v : Vl}
theorem txV_1 (h : v.1 = 1) : txV A d v = decB v.2 := by cases d <;> (unfold txV; rw [if_pos h])
theorem txV_2 (h : v.1 = 2) : txV A d v = if v.2 = 1 then [116, 114, 117, 101] else [102, 97, 108, 115, 101] := by cases d <;> (unfold txV; rw [if_neg (by omega), if_pos h])
theorem txV_3 (h : v.1 = 3) : txV A d v = [110, 105, 108] := by cases d <;> (unfold txV; rw [if_neg (by omega), if_neg (by omega), if_pos h])
theorem txV_5 (h : v.1 = 5) : txV A d v = badT v.2 := by cases d <;> (unfold txV; rw [if_neg (by omega), if_neg (by omega), if_neg (by omega), if_pos h])
theorem txV_40 (h : v.1 = 4) : txV A 0 v = [46, 46] := by unfold txV; rw [if_neg (by omega), if_neg (by omega), if_neg (by omega), if_neg (by omega), if_pos h]
theorem txV_4 (h : v.1 = 4) : txV A (d + 1) v = [91] ++ joinN (txV A d) (cellsAt A (num v)) (cellsAt A (num v)).length ++ [93] := by unfold txV; rw [if_neg (by omega), if_neg (by omega), if_neg (by omega), if_neg (by omega), if_pos h]
theorem txV_no (h1 : ¬ v.1 = 1) (h2 : ¬ v.1 = 2) (h3 : ¬ v.1 = 3) (h5 : ¬ v.1 = 5) (h4 : ¬ v.1 = 4) : txV A d v = [63] := by cases d <;> (unfold txV; rw [if_neg h1, if_neg h2, if_neg h3, if_neg h5, if_neg h4])
theorem decN_len : ∀ (f n : Nat), (decN f n).length ≤ f
  | 0, _ => Nat.le_refl _
  | f + 1, n => by
    unfold decN; split
    · simp
    · rw [List.length_append]; have := decN_len f (n / 10); simp only [List.length_singleton]; omega
theorem decB_len (n : Int) : (decB n).length ≤ 21 := by
  unfold decB; have := decN_len 20 n.natAbs
  split
  · rw [List.length_cons]; omega
  · omega
theorem badT_len (n : Int) : (badT n).length ≤ 6 := by unfold badT; repeat' (split <;> (try decide))
end txs
section outs
variable {Z Z2 : Nat → Prop} {lo lo2 b nk ck d : Nat} {w : World} {sk : Option Addr} {A : List (List Vl)} {bs bs2 : List UInt8} {v : Vl} {str : ByteArray} {l : List Vl} {i : Nat}
theorem out_v (hM : SH Z2 w b (bs ++ str.data.toList) sk nk ck) (hi : ∀ k, Z2 k → Z k ∨ lo2 ≤ k) (hlo : lo ≤ lo2) (hs : str.data.toList = txV A d v) (hl : str.data.toList.length ≤ 30) : OutS Z lo b w sk nk ck (QV A bs d v) := by
  refine ⟨_, Z2, ⟨by rw [hs]; exact Cut.refl _, by rw [List.length_append]; omega, by rw [List.length_append]; omega⟩, hM, fun k hk => (hi k hk).imp id (fun h => Nat.le_trans hlo h)⟩
theorem out_r (h4 : v.1 = 4) (hM : SH Z2 w b (bs2 ++ [93]) sk nk ck) (hi : ∀ k, Z2 k → Z k ∨ lo ≤ k) (hq : QL A (bs ++ [91]) d (cellsAt A (num v)) (cellsAt A (num v)).length bs2) : OutS Z lo b w sk nk ck (QV A bs (d + 1) v) := by
  obtain ⟨h1, h2, h3⟩ := hq
  rw [List.length_append, List.length_singleton] at h2 h3
  refine ⟨_, Z2, ⟨?_, by rw [List.length_append]; omega, by rw [List.length_append, List.length_singleton]; omega⟩, hM, hi⟩
  have h5 := h1.app [93]
  rw [txV_4 h4]
  simpa [List.append_assoc] using h5
theorem cut_step {bq : List UInt8} (hv : l[i]? = some v) (hc : Cut bq (bs ++ joinN (txV A d) l i)) {sep : List UInt8} (hs : sep = if 0 < i then [44, 32] else []) (h : Cut bs2 ((bq ++ sep) ++ txV A d v)) : Cut bs2 (bs ++ joinN (txV A d) l (i + 1)) := by
  rw [joinN_on hv, ← hs]
  have h2 := (hc.app sep).app (txV A d v)
  have := h.trans h2
  simpa [List.append_assoc] using this
theorem out_full {bq : List UInt8} (hM : SH Z2 w b bq sk nk ck) (hi : ∀ k, Z2 k → Z k ∨ lo ≤ k) (hc : Cut bq (bs ++ joinN (txV A d) l i)) (hlo : bs.length ≤ bq.length) (hup : bq.length ≤ max bs.length (2532 + 30 * d)) (hf : (2500 : Int) < (bq.length : Int)) (hin : i ≤ l.length) : OutS Z lo b w sk nk ck (QL A bs d l l.length) := by
  obtain ⟨c, hc2⟩ := joinN_more (txV A d) l i l.length hin
  refine ⟨bq, Z2, ⟨?_, hlo, hup⟩, hM, hi⟩
  rw [hc2, ← List.append_assoc]
  exact hc.full (by omega) c
theorem out_end {bq : List UInt8} (hM : SH Z2 w b bq sk nk ck) (hi : ∀ k, Z2 k → Z k ∨ lo ≤ k) (hc : Cut bq (bs ++ joinN (txV A d) l i)) (hlo : bs.length ≤ bq.length) (hup : bq.length ≤ max bs.length (2532 + 30 * d)) (hin : i ≤ l.length) (he : ¬ (i : Int) < (l.length : Int)) : OutS Z lo b w sk nk ck (QL A bs d l l.length) := by
  obtain rfl : i = l.length := by omega
  exact ⟨bq, Z2, ⟨hc, hlo, hup⟩, hM, hi⟩
end outs
def badV : List ByteArray := [⟨#[]⟩, ⟨#[122, 101, 114, 111, 33]⟩, ⟨#[114, 97, 110, 103, 101, 33]⟩, ⟨#[105, 110, 100, 101, 120, 33]⟩, ⟨#[115, 105, 122, 101, 33]⟩, ⟨#[107, 105, 110, 100, 33]⟩]
theorem rn_badAt {P : Program} {N : Nat} {ρ : Nat → Value} {w : World} {d : Option Tmp} {t : TypeId} {p : String} {a : Array Edge} {g : Option (Nat × Bool)} {x y : Operand} {T E : TypeId} {n : Int} (ht : P.underlying T = some (.array 6 E)) (hs : ∀ w, (sizeOf E).run P w = .ok 1 w) (ha : ∀ w, (isAgg E).run P w = .ok false w)
    (hx : ev N ρ x = .agg (badV.map Value.string).toArray) (hy : ev N ρ y = .int .i64 n) (h : 1 ≤ n ∧ n ≤ 5) : Rn P N ⟨d, .index T x y, t, p, a, g⟩ ρ w (.string (badV.getD n.toNat ⟨#[]⟩)) w :=
  ⟨fun _ h => (by cases h), by
    have hc : n = 1 ∨ n = 2 ∨ n = 3 ∨ n = 4 ∨ n = 5 := by omega
    rcases hc with rfl | rfl | rfl | rfl | rfl <;> simp [execOp, hx, hy, Instr.index, asIntOf, run_underlying ht, hs, part, ha, badV]⟩
theorem badV_at {n : Int} (h : 1 ≤ n ∧ n ≤ 5) : (badV.getD n.toNat ⟨#[]⟩).data.toList = badT n := by
  have hc : n = 1 ∨ n = 2 ∨ n = 3 ∨ n = 4 ∨ n = 5 := by omega
  rcases hc with rfl | rfl | rfl | rfl | rfl <;> rfl
theorem tx_bool {A : List (List Vl)} {d : Nat} {v : Vl} (h : v.1 = 2) : ((if decide (v.2 = 1) = true then ⟨#[116, 114, 117, 101]⟩ else ⟨#[102, 97, 108, 115, 101]⟩ : ByteArray)).data.toList = txV A d v := by
  rw [txV_2 h]
  by_cases g : v.2 = 1
  · rw [if_pos (decide_eq_true g), if_pos g]
  · rw [if_neg (by rw [decide_eq_false g]; exact Bool.false_ne_true), if_neg g]
theorem tx_bool_len (q : Bool) : ((if q = true then ⟨#[116, 114, 117, 101]⟩ else ⟨#[102, 97, 108, 115, 101]⟩ : ByteArray)).data.toList.length ≤ 30 := by cases q <;> decide
theorem str_sz (s : ByteArray) {n : Nat} (h : s.data.toList.length ≤ n) : s.size ≤ n := by rw [← sz_str]; exact h

/-! Show. -/
open Go.Lib
theorem sh_new {w : World} {lo b nk ck : Nat} {sk : Option Addr} (hB : Blk w b [.pointer none, .slice none 0 0, .slice sk nk ck] 149) (g : lo ≤ b) : ∃ Z, SH Z w b [] sk nk ck ∧ ∀ k, Z k → lo ≤ k := by
  obtain ⟨Z2, h1, h2⟩ := sh_mk (Z := fun _ => False) (lo := lo) (bs := []) (s := none) (c := 0) hB rfl (.inl rfl) (OwnS.nil _ _ _) (fun _ _ _ h => by cases h) (fun _ h => ob_none h) (.inr g) (fun _ h => ob_none h)
  exact ⟨Z2, h1, fun k hk => (h2 k hk).elim False.elim id⟩
theorem vv_lt {w : World} {F : Nat → Prop} {s : Option Addr} {L : List (List Vl)} (h : VvS F w s L) : VvS (fun k => F k ∧ k < w.heap.size) w s L := fun i x hx => by
  obtain ⟨b, o, h1, h2, s2, c2, h3, h4⟩ := h i x hx
  refine ⟨b, o, h1, ⟨h2, ?_⟩, s2, c2, h3, vl_lt h4⟩
  rcases Nat.lt_or_ge b w.heap.size with g | g
  · exact g
  · unfold World.cell? at h3
    rw [Array.getElem?_eq_none g] at h3
    simp at h3
theorem vv_wide {w : World} {F F' : Nat → Prop} {s : Option Addr} {L : List (List Vl)} (h : VvS F w s L) (hF : ∀ k, F k → F' k) : VvS F' w s L := fun i x hx => by
  obtain ⟨b, o, h1, h2, s', c', h3, h4⟩ := h i x hx
  exact ⟨b, o, h1, hF b h2, s', c', h3, h4.wide hF⟩
def PicV (p : Pic) (v : Vl) : Prop := v ∈ p.1 ∨ ∃ l ∈ p.2, v ∈ l
theorem vOk_of {A : List (List Vl)} {v : Vl} (h : isVal v A.length = true) : VOk A v := by
  refine ⟨isVal_ref h, fun h5 => ?_⟩
  unfold isVal at h
  rw [if_neg (by omega), if_neg (by omega), if_neg (by omega), if_neg (by omega), if_pos h5] at h
  exact of_decide_eq_true h
theorem isPic_parts {p : Pic} (h : isPicB p = true) : okM (memC p.2) = true ∧ p.1.length ≤ 100 ∧ (∀ v ∈ p.1, isVal v p.2.length = true) ∧ drawP p.2 p.1 = p := by
  unfold isPicB at h
  simp only [Bool.and_eq_true, decide_eq_true_iff, List.all_eq_true] at h
  exact ⟨h.1.1.1, h.1.1.2, h.1.2, h.2⟩
theorem isPic_cells {p : Pic} (h : isPicB p = true) {l : List Vl} (hl : l ∈ p.2) : l.length ≤ 100 ∧ ∀ v ∈ l, isVal v p.2.length = true := by
  obtain ⟨h1, _⟩ := isPic_parts h
  obtain ⟨_, h2, _⟩ := okM_iff.1 h1
  have h3 := stB_iff.1 (h2 (l, []) (by unfold memC; exact List.mem_map.2 ⟨l, hl, rfl⟩))
  rw [memC_len] at h3
  exact ⟨h3.1, h3.2.1⟩
theorem showOk_pic {P : Program} {p : Pic} {G : Nat → Prop} {T : World → Prop} (hst : ∀ {S : Nat → Prop} {w w' : World}, Fr S w w' → (∀ k, G k → ¬ S k) → T w → T w') (h : isPicB p = true) (hI : ∀ v, PicV p v → ItP P T 156 v) : ShowOk P p.2 (PicV p) G T := by
  obtain ⟨_, _, h3, _⟩ := isPic_parts h
  refine ⟨hst, fun v hv => ⟨vOk_of ?_, hI v hv⟩, fun l hl => ⟨by have := (isPic_cells h hl).1; omega, fun v hv => .inr ⟨l, hl, hv⟩⟩⟩
  rcases hv with hv | ⟨l, hl, hv⟩
  · exact h3 v hv
  · exact (isPic_cells h hl).2 v hv
def picT (p : Pic) (d : Nat) : List UInt8 := joinN (txV p.2 d) p.1 p.1.length
def showR (p : Pic) (d : Int) : Int × List UInt8 :=
  if isPicB p = true then (if 0 ≤ d ∧ d ≤ 12 then (if 2500 < (picT p d.toNat).length then (5, []) else (0, picT p d.toNat)) else (3, [])) else (4, [])
def showV (r : Int × List UInt8) : Value := .tuple #[.string ⟨r.2.toArray⟩, .int .i64 r.1]
section showr
variable {p : Pic} {d : Int} {A : List (List Vl)} {bs : List UInt8} {n : Nat}
theorem showR_4 (h : ¬ isPicB p = true) : Value.tuple #[.string ⟨#[]⟩, .int .i64 4] = showV (showR p d) := by unfold showR; rw [if_neg h]; rfl
theorem showR_3 (h : isPicB p = true) (h2 : ¬ (0 ≤ d ∧ d ≤ 12)) : Value.tuple #[.string ⟨#[]⟩, .int .i64 3] = showV (showR p d) := by unfold showR; rw [if_pos h, if_neg h2]; rfl
theorem showR_5 (h : isPicB p = true) (h2 : 0 ≤ d ∧ d ≤ 12) (hq : QL p.2 [] d.toNat p.1 p.1.length bs) (h3 : (2500 : Int) < (bs.length : Int)) : Value.tuple #[.string ⟨#[]⟩, .int .i64 5] = showV (showR p d) := by
  unfold showR; rw [if_pos h, if_pos h2]
  obtain ⟨hc, _, _⟩ := hq
  have : 2500 < (picT p d.toNat).length := by
    rcases hc with e | ⟨_, e⟩
    · have e : bs = picT p d.toNat := e
      rw [← e]; omega
    · exact e
  rw [if_pos this]; rfl
theorem showR_0 (h : isPicB p = true) (h2 : 0 ≤ d ∧ d ≤ 12) (hq : QL p.2 [] d.toNat p.1 p.1.length bs) (h3 : ¬ (2500 : Int) < (bs.length : Int)) : Value.tuple #[.string ⟨bs.toArray⟩, .int .i64 0] = showV (showR p d) := by
  unfold showR; rw [if_pos h, if_pos h2]
  obtain ⟨hc, _, _⟩ := hq
  rcases hc with e | ⟨e, _⟩
  · have e : bs = picT p d.toNat := e
    rw [← e, if_neg (by omega)]; rfl
  · exact absurd (by omega) h3
end showr

/-! Awake. -/
theorem flat_len {α : Type} {f : α → List Value} {n : Nat} (h : ∀ x, (f x).length = n) : ∀ l : List α, (l.flatMap f).length = l.length * n
  | [] => by simp
  | x :: l => by rw [List.flatMap_cons, List.length_append, h x, flat_len h l, List.length_cons, Nat.succ_mul]; omega
theorem vl_blk {w : World} {b : Nat} (l : List Vl) (hn : l.length ≤ 100) (h : Blk w b (l.flatMap vlC) 36) : VlS (fun _ => True) w (some ⟨b, 0, none⟩) l :=
  (OwnS.full (n := l.length) (size := 2) h (flat_len (f := vlC) (fun _ => rfl) l) (by unfold maxLen; omega)).sl (by decide) rfl (fun _ _ => rfl) (fun _ _ => trivial)
theorem tl_blk {w : World} {b : Nat} (l : List Tl) (hn : l.length ≤ 100) (h : Blk w b (l.flatMap tlC) 106) : TlS (fun _ => True) w (some ⟨b, 0, none⟩) l :=
  (OwnS.full (n := l.length) (size := 3) h (flat_len (f := tlC) (fun _ => rfl) l) (by unfold maxLen; omega)).sl (by decide) rfl (fun _ _ => rfl) (fun _ _ => trivial)
theorem op_blk {w : World} {b : Nat} (l : List Op) (hn : l.length ≤ 100) (h : Blk w b (l.flatMap opC) 38) : OpS (fun _ => True) w (some ⟨b, 0, none⟩) l :=
  (OwnS.full (n := l.length) (size := 8) h (flat_len (f := opC) (fun _ => rfl) l) (by unfold maxLen; omega)).sl (by decide) rfl (fun _ _ => rfl) (fun _ _ => trivial)
theorem mem_blk {w : World} {b : Nat} {cs : List Value} {m : Mem} (h : Blk w b cs 65) (hm : ∀ (i : Nat) (x : St), m[i]? = some x → ∃ (sA : Option Addr) (cA : Nat) (sB : Option Addr) (cB : Nat), cs[i * 2]? = some (.slice sA x.1.length cA) ∧ cs[i * 2 + 1]? = some (.slice sB x.2.length cB) ∧ VlS (fun _ => True) w sA x.1 ∧ RdS (fun _ => True) w sB x.2) : MemS (fun _ => True) w (some ⟨b, 0, none⟩) m := fun i x hx => by
  obtain ⟨sA, cA, sB, cB, h1, h2, h3, h4⟩ := hm i x hx
  exact ⟨b, 0, rfl, trivial, sA, cA, sB, cB, h.cell _ (by rw [Nat.zero_add]; exact h1), h.cell _ (by rw [Nat.zero_add]; exact h2), h3, h4⟩
theorem vv_blk {w : World} {b : Nat} {cs : List Value} {L : List (List Vl)} (h : Blk w b cs 30) (hm : ∀ (i : Nat) (x : List Vl), L[i]? = some x → ∃ (s : Option Addr) (c : Nat), cs[i]? = some (.slice s x.length c) ∧ VlS (fun _ => True) w s x) : VvS (fun _ => True) w (some ⟨b, 0, none⟩) L := fun i x hx => by
  obtain ⟨s, c, h1, h2⟩ := hm i x hx
  exact ⟨b, 0, rfl, trivial, s, c, h.cell _ (by rw [Nat.zero_add, Nat.mul_one]; exact h1), h2⟩
theorem rdS_nil (w : World) (F : Nat → Prop) : RdS F w none [] := fun i x hx => by simp at hx
theorem vlS_nil (w : World) (F : Nat → Prop) : VlS F w none [] := fun i x hx => by simp at hx
theorem memS_nil (w : World) (F : Nat → Prop) : MemS F w none [] := fun i x hx => by simp at hx
theorem two_at {α : Type} {a b : α} {P : Nat → α → Prop} (h0 : P 0 a) (h1 : P 1 b) : ∀ i x, [a, b][i]? = some x → P i x := by
  intro i x hx
  match i, hx with
  | 0, hx => injection hx with hx; subst hx; exact h0
  | 1, hx => injection hx with hx; subst hx; exact h1
  | k + 2, hx => simp at hx
theorem one_at {α : Type} {a : α} {P : Nat → α → Prop} (h0 : P 0 a) : ∀ i x, [a][i]? = some x → P i x := by
  intro i x hx
  match i, hx with
  | 0, hx => injection hx with hx; subst hx; exact h0
  | k + 1, hx => simp at hx
def tangM : Mem := [([(4, 1)], []), ([(4, 1), (0, 0)], [])]
theorem mem2_blk {w : World} {b b1 b2 : Nat} {l1 l2 : List Vl} {n1 n2 : Nat} (hn : n1 = l1.length) (hn2 : n2 = l2.length) (hm1 : l1.length ≤ 100) (hm2 : l2.length ≤ 100) (h : Blk w b [.slice (some ⟨b1, 0, none⟩) n1 n1, .slice none 0 0, .slice (some ⟨b2, 0, none⟩) n2 n2, .slice none 0 0] 65) (h1 : Blk w b1 (l1.flatMap vlC) 36) (h2 : Blk w b2 (l2.flatMap vlC) 36) : MemS (fun _ => True) w (some ⟨b, 0, none⟩) [(l1, []), (l2, [])] :=
  mem_blk h (two_at ⟨_, _, _, _, by rw [hn]; rfl, rfl, vl_blk l1 hm1 h1, rdS_nil _ _⟩ ⟨_, _, _, _, by rw [hn2]; rfl, rfl, vl_blk l2 hm2 h2, rdS_nil _ _⟩)
def opsA : List Op := [⟨1, (1, 2), (0, 0), (0, 0), 0⟩, ⟨3, (4, 0), (1, 1), (0, 0), 7⟩, ⟨2, (4, 0), (1, 1), (1, 5), 0⟩, ⟨3, (4, 0), (1, 2), (0, 0), 8⟩]
def picA : Pic := ([(4, 0), (4, 1), (4, 0)], [[(4, 0), (0, 0)], [(4, 0)]])
theorem playR_A : playR [] opsA = ([([(0, 0), (1, 5)], [])], [(4, 0), (0, 0), (3, 0), (5, 3)], [(7, (1, 5))], 0) := by kernel_rfl
theorem drawR_A : drawR tangM [(4, 1), (4, 0), (4, 1)] = (0, picA) := by decide +kernel
theorem showR_A : showR picA 2 = (0, [91, 91, 46, 46, 44, 32, 63, 93, 44, 32, 63, 93, 44, 32, 91, 91, 46, 46, 44, 32, 63, 93, 93, 44, 32, 91, 91, 46, 46, 44, 32, 63, 93, 44, 32, 63, 93]) := by decide +kernel
theorem prim_A1 : primS ⟨#[100, 105, 118]⟩ [(1, -7), (1, 2)] = ((1, -3), 0) := by decide +kernel
theorem prim_A2 : primS ⟨#[109, 111, 100]⟩ [(1, -7), (1, 2)] = ((1, -1), 0) := by decide +kernel
theorem prim_A3 : primS ⟨#[97, 100, 100]⟩ [(1, 1000000000), (1, 1)] = ((5, 2), 0) := by decide +kernel
theorem prim_A4 : primS ⟨#[108, 116]⟩ [(2, 1), (1, 1)] = ((5, 5), 0) := by decide +kernel
theorem picA_noint {P : Program} {T : World → Prop} {v : Vl} (h : PicV picA v) : ItP P T 156 v := fun h1 => by
  have : ∀ v ∈ picA.1 ++ picA.2.flatten, v.1 ≠ 1 := by decide
  refine absurd h1 (this v ?_)
  rcases h with h | ⟨l, hl, hv⟩
  · exact List.mem_append_left _ h
  · exact List.mem_append_right _ (List.mem_flatten.2 ⟨l, hl, hv⟩)
theorem prim_lit {P : Program} {f : FuncId} {args : List Value} {w : World} {nm : ByteArray} {l : List Vl} {r : Vl × Int} (e : primS nm l = r) (h : CT P f args w no (fun v _ => v = .tuple #[vlV (primS nm l).1, .int .i64 (primS nm l).2])) : CT P f args w no (fun v _ => v = .tuple #[.agg #[.int .u8 r.1.1, .int .i64 r.1.2], .int .i64 r.2]) := by subst e; exact h
theorem play_lit {P : Program} {f : FuncId} {args : List Value} {w : World} {G : Nat → Prop} {lo : Nat} {m : Mem} {l : List Op} {r : Mem × List Vl × List Tl × Int} (e : playR m l = r) (h : CT P f args w no (fun v w => OutP G lo w v (playR m l))) : CT P f args w no (fun v w => OutP G lo w v r) := by subst e; exact h
theorem draw_lit {P : Program} {f : FuncId} {args : List Value} {w : World} {lo : Nat} {m : Mem} {l : List Vl} {r : Int × Pic} (e : drawR m l = r) (h : CT P f args w no (fun v w => DrawR lo w v (drawR m l))) : CT P f args w no (fun v w => DrawR lo w v r) := by subst e; exact h
theorem show_lit {P : Program} {f : FuncId} {args : List Value} {w : World} {p : Pic} {d : Int} {r : Int × List UInt8} (e : showR p d = r) (h : CT P f args w no (fun v _ => v = showV (showR p d))) : CT P f args w no (fun v _ => v = .tuple #[.string ⟨r.2.toArray⟩, .int .i64 r.1]) := by subst e; exact h
theorem Bm_A : Bm [] := ⟨Nat.zero_le _, ⟨fun s hs => (by cases hs), Nat.zero_le _⟩⟩
theorem Bm_M1 : Bm [([(0, 0), (1, 5)], [])] := by refine ⟨by decide, fun s hs => ?_, by decide⟩; rw [List.mem_singleton] at hs; subst hs; exact ⟨by decide, by decide⟩
theorem Bm_T : Bm tangM := by
  refine ⟨by decide, fun s hs => ?_, by decide⟩
  rcases List.mem_cons.1 hs with rfl | hs
  · exact ⟨by decide, by decide⟩
  · rw [List.mem_singleton] at hs; subst hs; exact ⟨by decide, by decide⟩
theorem Bp_A : Bp picA := by
  refine ⟨by decide, by decide, fun l hl => ?_⟩
  rcases List.mem_cons.1 hl with rfl | hl
  · decide
  · rw [List.mem_singleton] at hl; subst hl; decide
theorem opsA_kind : ∀ o ∈ opsA, 0 ≤ o.kind ∧ o.kind < 256 := by decide

section holes
variable {i : Int} {l : List Vl} {k : Nat} {v : Vl} {m : Mem} {x : St} {n : Nat} {L : List Rd}
end holes
def HolI (I : Nat × Nat) (w : World) (v : Value) (L : List Rd) : Prop := ∃ (s : Option Addr) (c : Nat), v = .slice s L.length c ∧ RdS (Iv I.1 I.2) w s L
theorem HolI.fr {I : Nat × Nat} {w w' : World} {v : Value} {L : List Rd} {S : Nat → Prop} (h : HolI I w v L) (hf : Fr S w w') (hS : ∀ k, I.1 ≤ k ∧ k < I.2 → ¬ S k) : HolI I w' v L := by
  obtain ⟨s, c, h1, h2⟩ := h; exact ⟨s, c, h1, h2.fr (rd_stab _) hf hS⟩
section hol
variable {lo n c k : Nat} {w : World} {s : Option Addr} {m : Mem} {v : Value}
end hol
theorem slot_app {α : Type} {v : Value} {s : Option Addr} {c : Nat} {l : List α} {a : α} (h : v = .slice s (l.length + 1) c) : v = .slice s (l ++ [a]).length c := by rw [List.length_append]; exact h
section rk
variable {nm : ByteArray} {a b : Vl} {x y z : Int}
end rk
section rp
variable {nm : ByteArray} {l : List Vl} {k i : Nat} {x y : Vl}
end rp

section strict
variable {a b : Vl} {k : Nat}
end strict

section meme
variable {lo lo2 c : Nat} {w w' : World} {s : Option Addr} {p : Pic} {m : Mem}
end meme

section renum
variable {Z : Nat → Prop} {w w0 : World} {b c co i j : Nat} {O : List Nat} {l : List Vl} {s so : Option Addr} {v : Vl}
end renum
theorem MetO.parts {Z : Nat → Prop} {w : World} {b : Nat} {O : List Nat} (h : MetO Z w b O) : ∃ (s : Option Addr) (c : Nat), Blk w b [.slice s O.length c] 77 ∧ OwnS w 3 1 s O.length c (O.flatMap natC) := by
  obtain ⟨s, c, h1, h2, _⟩ := h; exact ⟨s, c, h1, h2⟩
section up
variable {p : Pic}
theorem pic_vals (h : isPicB p = true) : (∀ v ∈ p.1, isVal v p.2.length = true) ∧ ∀ l ∈ p.2, ∀ v ∈ l, isVal v p.2.length = true := ⟨(isPic_parts h).2.2.1, fun l hl => (isPic_cells h hl).2⟩
end up

section boolcmp
variable {P : Program} {N : Nat} {ρ : Nat → Value} {w : World} {d : Option Tmp} {t : TypeId} {p : String} {a : Array Edge} {g : Option (Nat × Bool)} {x y : Operand} {T Ty : TypeId} {u v : Bool}
end boolcmp
section isr
variable {p : Pic}
end isr
section dfsat
variable {A B : List (List Vl)} {f i : Nat} {L L' : List (Nat × Nat)} {l k : List Vl} {v w : Vl}
end dfsat
/-! The pairs, in two maps. -/
def fstF (L : List (Nat × Nat)) (k : Int) : Option Value := if 0 ≤ k then (L.find? (fun p => decide (p.1 = k.toNat))).map (fun p => Value.int .i64 ((p.2 : Nat) : Int)) else none
def sndF (L : List (Nat × Nat)) (k : Int) : Option Value := if 0 ≤ k then (L.find? (fun p => decide (p.2 = k.toNat))).map (fun p => Value.int .i64 ((p.1 : Nat) : Int)) else none
section pairsin
variable {L : List (Nat × Nat)} {v w : Vl}
end pairsin
/-- two pictures, and the pairs of their structures that were met -/
def PO (Z : Nat → Prop) (w : World) (b : Nat) (X : List Value) (L : List (Nat × Nat)) : Prop :=
  ∃ bt bf : Nat, Blk w b (X ++ [.map (some bt), .map (some bf)]) 156 ∧ MapB w bt kI (fstF L) ∧ MapB w bf kI (sndF L) ∧ b ≠ bt ∧ b ≠ bf ∧ bt ≠ bf ∧ Z b ∧ Z bt ∧ Z bf ∧ ∀ k, Z k → k < w.heap.size
section po
variable {Z : Nat → Prop} {w w' : World} {b : Nat} {X : List Value} {L : List (Nat × Nat)}
theorem PO.lt (h : PO Z w b X L) {k : Nat} (hk : Z k) : k < w.heap.size := by obtain ⟨_, _, _, _, _, _, _, _, _, _, _, h⟩ := h; exact h k hk
theorem PO.fr (h : PO Z w b X L) {S : Nat → Prop} (hf : Fr S w w') (hS : ∀ k, Z k → ¬ S k) : PO Z w' b X L := by
  obtain ⟨bt, bf, h1, h2, h3, h4, h5, h6, h7, h8, h9, h10⟩ := h
  exact ⟨bt, bf, h1.fr hf (hS b h7), h2.fr hf (hS bt h8), h3.fr hf (hS bf h9), h4, h5, h6, h7, h8, h9, fun k hk => Nat.lt_of_lt_of_le (h10 k hk) hf.size⟩
theorem PO.ext (h : PO Z w b X L) (hf : Ext w w') : PO Z w' b X L := h.fr hf (fun _ _ hn => hn)
theorem PO.in (h : PO Z w b X L) : Z b := by obtain ⟨_, _, _, _, _, _, _, _, h, _⟩ := h; exact h
theorem PO.parts (h : PO Z w b X L) : ∃ bt bf : Nat, Blk w b (X ++ [.map (some bt), .map (some bf)]) 156 ∧ MapB w bt kI (fstF L) ∧ MapB w bf kI (sndF L) := by
  obtain ⟨bt, bf, h1, h2, h3, _⟩ := h; exact ⟨bt, bf, h1, h2, h3⟩
end po
section outb
variable {Z Z2 : Nat → Prop} {lo b f i : Nat} {X : List Value} {A B : List (List Vl)} {L L2 L3 : List (Nat × Nat)} {l k : List Vl} {w : World} {v u : Vl}
end outb
/-! The reference: pair by pair. -/
section bfsat
variable {A B : List (List Vl)} {i n : Nat} {L L' : List (Nat × Nat)} {l k : List Vl} {v w : Vl}
end bfsat
section bfsloop
variable {A B : List (List Vl)} {f i n : Nat} {L L' : List (Nat × Nat)} {p : Nat × Nat}
end bfsloop
/-- pairs that are met, behind a pointer -/
def prC (p : Nat × Nat) : List Value := [.int .i64 (p.1 : Nat), .int .i64 (p.2 : Nat)]
def MetP (Z : Nat → Prop) (w : World) (b : Nat) (L : List (Nat × Nat)) : Prop :=
  ∃ (s : Option Addr) (c : Nat), Blk w b [.slice s L.length c] 84 ∧ OwnS w 86 2 s L.length c (L.flatMap prC) ∧ (∀ k, ob s k → k ≠ b) ∧ Z b ∧ (∀ k, ob s k → Z k) ∧ ∀ k, Z k → k < w.heap.size
section metp
variable {Z : Nat → Prop} {w w' : World} {b : Nat} {L : List (Nat × Nat)}
theorem MetP.lt (h : MetP Z w b L) {k : Nat} (hk : Z k) : k < w.heap.size := by obtain ⟨_, _, _, _, _, _, _, h⟩ := h; exact h k hk
theorem MetP.fr (h : MetP Z w b L) {S : Nat → Prop} (hf : Fr S w w') (hS : ∀ k, Z k → ¬ S k) : MetP Z w' b L := by
  obtain ⟨s, c, h1, h2, h3, h4, h5, h6⟩ := h
  exact ⟨s, c, h1.fr hf (hS b h4), h2.fr hf (fun k hk => hS k (h5 k hk)), h3, h4, h5, fun k hk => Nat.lt_of_lt_of_le (h6 k hk) hf.size⟩
theorem MetP.ext (h : MetP Z w b L) (hf : Ext w w') : MetP Z w' b L := h.fr hf (fun _ _ hn => hn)
theorem MetP.in (h : MetP Z w b L) : Z b := by obtain ⟨_, _, _, _, _, h, _⟩ := h; exact h
theorem MetP.parts (h : MetP Z w b L) : ∃ (s : Option Addr) (c : Nat), Blk w b [.slice s L.length c] 84 ∧ OwnS w 86 2 s L.length c (L.flatMap prC) := by
  obtain ⟨s, c, h1, h2, _⟩ := h; exact ⟨s, c, h1, h2⟩
end metp
section outc
variable {Z Z2 : Nat → Prop} {lo b i j : Nat} {L L2 : List (Nat × Nat)} {l k : List Vl} {w : World} {v u : Vl} {x : Nat × Nat}
end outc
section bele
variable {p q : Pic}
end bele

/-! A memory that is read; a structure more in front. -/
def MZ (Z : Nat → Prop) (w : World) (s : Option Addr) (m : Mem) : Prop := MemS Z w s m ∧ ∀ k, Z k → k < w.heap.size
section mz
variable {Z : Nat → Prop} {w w' : World} {s : Option Addr} {m : Mem}
theorem MZ.lt (h : MZ Z w s m) {k : Nat} (hk : Z k) : k < w.heap.size := h.2 k hk
theorem MZ.fr (h : MZ Z w s m) {S : Nat → Prop} (hf : Fr S w w') (hS : ∀ k, Z k → ¬ S k) : MZ Z w' s m := ⟨h.1.fr (st_stab _) hf hS, fun k hk => Nat.lt_of_lt_of_le (h.2 k hk) hf.size⟩
theorem MZ.ext (h : MZ Z w s m) (hf : Ext w w') : MZ Z w' s m := h.fr hf (fun _ _ hn => hn)
theorem MZ.of {lo : Nat} (h : MemS (Iv lo w.heap.size) w s m) : MZ (Iv lo w.heap.size) w s m := ⟨h, fun k hk => hk.2⟩
end mz
section ups
variable {T : List (SE Vl Rd)} {L : List (List Vl)} {i : Nat} {l : List Vl} {e : SE Vl Rd} {v : Vl}
end ups
/-- a picture that is read -/
def PZ (Z : Nat → Prop) (w : World) (s s2 : Option Addr) (p : Pic) : Prop := (VlS Z w s p.1 ∧ VvS Z w s2 p.2) ∧ ∀ k, Z k → k < w.heap.size
section pz
variable {Z : Nat → Prop} {w w' : World} {s s2 : Option Addr} {p : Pic}
theorem PZ.lt (h : PZ Z w s s2 p) {k : Nat} (hk : Z k) : k < w.heap.size := h.2 k hk
theorem PZ.fr (h : PZ Z w s s2 p) {S : Nat → Prop} (hf : Fr S w w') (hS : ∀ k, Z k → ¬ S k) : PZ Z w' s s2 p := ⟨⟨h.1.1.fr (vl_stab _) hf hS, h.1.2.fr (vv_stab _) hf hS⟩, fun k hk => Nat.lt_of_lt_of_le (h.2 k hk) hf.size⟩
theorem PZ.ext (h : PZ Z w s s2 p) (hf : Ext w w') : PZ Z w' s s2 p := h.fr hf (fun _ _ hn => hn)
end pz

section msk
variable {bits n i k : Nat} {A : List (List Vl)} {l : List Vl} {v : Vl}
end msk
section mskop
variable {P : Program} {N : Nat} {ρ : Nat → Value} {w : World} {d : Option Tmp} {t : TypeId} {p : String} {a : Array Edge} {g : Option (Nat × Bool)} {x y : Operand} {T Ty : TypeId} {bits n : Nat}
end mskop

section less
variable {p q : Pic} {A : List (List Vl)} {l : List Vl} {bits more i j : Nat}
end less
/-! Storms, by bytes. -/
abbrev Q4 := Nat × Nat × Nat × Nat
def q4C (q : Q4) : List Value := [.int .u8 (q.1 : Nat), .int .u8 (q.2.1 : Nat), .int .u8 (q.2.2.1 : Nat), .int .u8 (q.2.2.2 : Nat)]
abbrev Q4S (F : Nat → Prop) (w : World) (s : Option Addr) (l : List Q4) : Prop := Sl F w s 4 l (Fl q4C)
def q4B (x : List Q4) : Prop := ∀ q ∈ x, q.1 < 256 ∧ q.2.1 < 256 ∧ q.2.2.1 < 256 ∧ q.2.2.2 < 256
def thVs (i : Nat) : List Vl := [(1, (i : Int)), (4, ((i % 4 : Nat) : Int)), (3, 0), (5, ((1 + i % 5 : Nat) : Int))]
def thV (c i : Nat) : Vl := (thVs i).getD (c / 3 % 4) (0, 0)
def thR (s c i : Nat) : Op := ⟨3, (4, (s : Int)), (1, (c : Int)), (0, 0), (i : Int)⟩
def thW (s c q i : Nat) : Op := ⟨2, (4, (s : Int)), (1, (c : Int)), thV q i, 0⟩
def thStep (q : Q4) (i : Nat) (st : List Op × List Bool) : List Op × List Bool :=
  if 0 < q.2.2.1 % 3 ∧ st.2.getD (8 * (q.1 % 4) + q.2.1 % 5) false = false then (st.1 ++ [thW (q.1 % 4) (q.2.1 % 5) q.2.2.1 i], st.2.set (8 * (q.1 % 4) + q.2.1 % 5) true)
  else (st.1 ++ [thR (q.1 % 4) (q.2.1 % 5) i], st.2)
def q40 : Q4 := (0, 0, 0, 0)
def thF (x : List Q4) : Nat → List Op × List Bool
  | 0 => ([], List.replicate 40 false)
  | i + 1 => thStep (x.getD i q40) i (thF x i)
def thN (x : List Q4) : Nat := min x.length 24
def thL (x : List Q4) : List Op := (thF x (thN x)).1
section th
variable {x : List Q4} {i : Nat} {q : Q4} {l : List Op} {W : List Bool}
end th
/-! ### Turned -/
def op0 : Op := ⟨0, (0, 0), (0, 0), (0, 0), 0⟩
section turn
variable {x : List Q4} {l : List Op} {key j : Nat} {q : Q4} {o : Op}
end turn
section given
variable {l : List Op} {g : List Vl} {i r : Nat} {o : Op} {v : Vl} {E : List Tl}
/-- those who heard, and how often -/
def outL (E : List Tl) : List Vl := (List.range 24).map (outF E)
def timF (E : List Tl) (r : Nat) : Nat := (E.filter fun e => decide (e.1 = (r : Int))).length
def timL (E : List Tl) : List Int := (List.range 24).map fun r => ((timF E r : Nat) : Int)
end given

/-! Storms: the program's steps. -/
section ops26
variable {P : Program} {N : Nat} {ρ : Nat → Value} {w : World} {d : Option Tmp} {t : TypeId} {p : String} {a : Array Edge} {g : Option (Nat × Bool)} {x y : Operand} {T Ty : TypeId}
end ops26
/-! The memory at first. -/
def mI (i : Nat) : Mem := (memF []).take i
/-- the first memory, and what it gives -/
def OutF (I : Nat × Nat) (i : Nat) (w : World) (v : Value) : Prop := ∃ (s : Option Addr) (c : Nat) (st : Option Addr) (ct : Nat), v = .tuple #[.agg #[.slice s (i + 1) c], .agg #[.int .u8 4, .int .i64 (i : Int)], .slice st 0 ct, .int .i64 0] ∧ MemS (Iv I.1 I.2) w s (mI (i + 1))
theorem OutF.fr {I : Nat × Nat} {i : Nat} {w w' : World} {v : Value} {S : Nat → Prop} (h : OutF I i w v) (hf : Fr S w w') (hS : ∀ k, I.1 ≤ k ∧ k < I.2 → ¬ S k) : OutF I i w' v := by
  obtain ⟨s, c, st, ct, h1, h2⟩ := h
  exact ⟨s, c, st, ct, h1, h2.fr (st_stab _) hf hS⟩
/-! Who was told what. -/
def GO (Z : Nat → Prop) (w : World) (b8 b9 : Nat) (E : List Tl) : Prop :=
  ∃ bo bt : Nat, Blk w b8 [.slice (some ⟨bo, 0, none⟩) 24 24] 30 ∧ Blk w b9 [.slice (some ⟨bt, 0, none⟩) 24 24] 77 ∧ OwnS w 36 2 (some ⟨bo, 0, none⟩) 24 24 ((outL E).flatMap vlC) ∧ OwnS w 3 1 (some ⟨bt, 0, none⟩) 24 24 ((timL E).map fun z => Value.int .i64 z) ∧ b8 ≠ b9 ∧ b8 ≠ bo ∧ b8 ≠ bt ∧ b9 ≠ bo ∧ b9 ≠ bt ∧ bo ≠ bt ∧ Z b8 ∧ Z b9 ∧ Z bo ∧ Z bt ∧ ∀ k, Z k → k < w.heap.size
section go
variable {Z : Nat → Prop} {w w' : World} {b8 b9 : Nat} {E : List Tl}
theorem GO.lt (h : GO Z w b8 b9 E) {k : Nat} (hk : Z k) : k < w.heap.size := by obtain ⟨_, _, _, _, _, _, _, _, _, _, _, _, _, _, _, _, h⟩ := h; exact h k hk
theorem GO.fr (h : GO Z w b8 b9 E) {S : Nat → Prop} (hf : Fr S w w') (hS : ∀ k, Z k → ¬ S k) : GO Z w' b8 b9 E := by
  obtain ⟨bo, bt, h1, h2, h3, h4, h5, h6, h7, h8, h9, h10, h11, h12, h13, h14, h15⟩ := h
  refine ⟨bo, bt, h1.fr hf (hS _ h11), h2.fr hf (hS _ h12), h3.fr hf (fun k hk => ?_), h4.fr hf (fun k hk => ?_), h5, h6, h7, h8, h9, h10, h11, h12, h13, h14, fun k hk => Nat.lt_of_lt_of_le (h15 k hk) hf.size⟩
  · rw [ob_some hk]; exact hS _ h13
  · rw [ob_some hk]; exact hS _ h14
theorem GO.ext (h : GO Z w b8 b9 E) (hf : Ext w w') : GO Z w' b8 b9 E := h.fr hf (fun _ _ hn => hn)
theorem GO.parts (h : GO Z w b8 b9 E) : ∃ bo : Nat, Blk w b8 [.slice (some ⟨bo, 0, none⟩) 24 24] 30 ∧ OwnS w 36 2 (some ⟨bo, 0, none⟩) 24 24 ((outL E).flatMap vlC) ∧ Z bo := by
  obtain ⟨bo, bt, h1, h2, h3, h4, h5, h6, h7, h8, h9, h10, h11, h12, h13, h14, h15⟩ := h
  exact ⟨bo, h1, h3, h13⟩
end go
section gomk
variable {Z : Nat → Prop} {w : World} {b8 b9 bo bt r lo : Nat} {E : List Tl} {v : Vl}
end gomk
/-! The stage's theorem, joined. -/
section stj
variable {x : List Q4} {l k : List Op}
end stj

/-! Storms: more and more. -/
def QZ (Z : Nat → Prop) (w : World) (s : Option Addr) (l : List Op) : Prop := OpS Z w s l ∧ ∀ k, Z k → k < w.heap.size
section qz
variable {Z : Nat → Prop} {w w' : World} {s : Option Addr} {l : List Op}
theorem QZ.lt (h : QZ Z w s l) {k : Nat} (hk : Z k) : k < w.heap.size := h.2 k hk
theorem QZ.fr (h : QZ Z w s l) {S : Nat → Prop} (hf : Fr S w w') (hS : ∀ k, Z k → ¬ S k) : QZ Z w' s l := ⟨h.1.fr (op_stab _) hf hS, fun k hk => Nat.lt_of_lt_of_le (h.2 k hk) hf.size⟩
theorem QZ.ext (h : QZ Z w s l) (hf : Ext w w') : QZ Z w' s l := h.fr hf (fun _ _ hn => hn)
theorem QZ.of {lo : Nat} (h : OpS (Iv lo w.heap.size) w s l) : QZ (Iv lo w.heap.size) w s l := ⟨h, fun k hk => hk.2⟩
end qz
def stN (x : List Q4) (i : Nat) : Mem := memF ((thL x).take i)
section more
variable {x : List Q4} {i : Nat} {o : Op}
end more

/-! Streams. -/
def StQ (A : List (List Vl)) (v0 : Vl) (L : List Int) (v : Vl) : Prop := strF A 400 v0 = (L ++ (strF A (400 - L.length) v).1, (strF A (400 - L.length) v).2)
section stq
variable {A : List (List Vl)} {v0 v a b : Vl} {L : List Int} {y : List Vl} {f : Nat}
theorem stq_0 (A : List (List Vl)) (v : Vl) : StQ A v [] v := rfl
theorem strF_two (h4 : v.1 = 4) (hy : A[num v]? = some [a, b]) (ha : a.1 = 1) : strF A (f + 1) v = (a.2 :: (strF A f b).1, (strF A f b).2) := by
  have e : cellsAt A (num v) = [a, b] := by unfold cellsAt; rw [List.getD_eq_getElem?_getD, hy]; rfl
  rw [strF, decide_eq_true h4, e]
  exact if_pos ha
theorem stq_on (hq : StQ A v0 L v) (hl : L.length < 400) (h4 : v.1 = 4) (hy : A[num v]? = some [a, b]) (ha : a.1 = 1) : StQ A v0 (L ++ [a.2]) b := by
  unfold StQ at hq ⊢
  obtain ⟨f, hf⟩ : ∃ f, 400 - L.length = f + 1 := ⟨399 - L.length, by omega⟩
  rw [hf, strF_two h4 hy ha] at hq
  rw [hq, List.length_append, List.length_singleton, show 400 - (L.length + 1) = f by omega]
  simp
theorem stq_stop (hq : StQ A v0 L v) (h : strF A (400 - L.length) v = ([], v)) : strF A 400 v0 = (L, v) := by
  unfold StQ at hq; rw [hq, h]; simp
theorem stq_full (hq : StQ A v0 L v) (h : ¬ L.length < 400) : strF A 400 v0 = (L, v) := stq_stop hq (by rw [show 400 - L.length = 0 by omega]; rfl)
theorem stq_kind (hq : StQ A v0 L v) (h : ¬ v.1 = 4) : strF A 400 v0 = (L, v) := stq_stop hq (by
  cases 400 - L.length with
  | zero => rfl
  | succ f => unfold strF; rw [decide_eq_false h])
theorem stq_two (hq : StQ A v0 L v) (hy : A[num v]? = some y) (h : ¬ y.length = 2) : strF A 400 v0 = (L, v) := stq_stop hq (by
  have e : cellsAt A (num v) = y := by unfold cellsAt; rw [List.getD_eq_getElem?_getD, hy]; rfl
  cases 400 - L.length with
  | zero => rfl
  | succ f =>
    unfold strF; rw [e]
    split
    · simp at h
    · rfl)
theorem stq_one (hq : StQ A v0 L v) (hy : A[num v]? = some [a, b]) (h : ¬ a.1 = 1) : strF A 400 v0 = (L, v) := stq_stop hq (by
  have e : cellsAt A (num v) = [a, b] := by unfold cellsAt; rw [List.getD_eq_getElem?_getD, hy]; rfl
  cases 400 - L.length with
  | zero => rfl
  | succ f =>
    unfold strF; rw [e]
    split
    · rename_i heq; injection heq with h1 h2; injection h2 with h2 h3; subst h1; rw [if_neg h]
    · rfl)
theorem two_of {α : Type} {l : List α} (h : (l.length : Int) = 2) : ∃ a b, l = [a, b] := by
  match l, h with
  | [], h => simp at h
  | [_], h => simp at h
  | [a, b], _ => exact ⟨a, b, rfl⟩
  | _ :: _ :: _ :: l, h => simp at h; omega
end stq
def strR (p : Pic) (z : Int) : Int × List Int × Vl := if isPicB p = true then (if 0 ≤ z ∧ z < (p.1.length : Int) then (0, strF p.2 400 (p.1.getD z.toNat (0, 0))) else (3, [], (0, 0))) else (4, [], (0, 0))
def OutZ (lo : Nat) (w : World) (v : Value) (r : Int × List Int × Vl) : Prop := ∃ s c, v = .tuple #[.slice s r.2.1.length c, .agg #[.int .u8 r.2.2.1, .int .i64 r.2.2.2], .int .i64 r.1] ∧ IntS (Iv lo w.heap.size) w s r.2.1
section outs
variable {lo : Nat} {w : World} {p : Pic} {z : Int} {n : Nat} {L : List Int} {v0 v : Vl}
theorem ints_nil (F : Nat → Prop) (w : World) (s : Option Addr) : IntS F w s [] := fun i x hx => by simp at hx
theorem outZ_4 (h : ¬ isPicB p = true) : OutZ lo w (.tuple #[.slice none 0 0, .agg #[.int .u8 0, .int .i64 0], .int .i64 4]) (strR p z) := by
  unfold strR; rw [if_neg h]; exact ⟨none, 0, rfl, ints_nil _ _ _⟩
theorem outZ_3 (h : isPicB p = true) (hz : ¬ (0 ≤ z ∧ z ≤ (p.1.length : Int) - 1)) : OutZ lo w (.tuple #[.slice none 0 0, .agg #[.int .u8 0, .int .i64 0], .int .i64 3]) (strR p z) := by
  unfold strR; rw [if_pos h, if_neg (by omega)]; exact ⟨none, 0, rfl, ints_nil _ _ _⟩
theorem outZ_0 {s : Option Addr} {c : Nat} (h : isPicB p = true) (hv : p.1[n]? = some v0) (he : strF p.2 400 v0 = (L, v)) (hS : IntS (Iv lo w.heap.size) w s L) : OutZ lo w (.tuple #[.slice s L.length c, .agg #[.int .u8 v.1, .int .i64 v.2], .int .i64 0]) (strR p (n : Int)) := by
  have hlt := (List.getElem?_eq_some_iff.1 hv).1
  unfold strR; rw [if_pos h, if_pos (by omega), Int.toNat_natCast, List.getD_eq_getElem?_getD, hv, Option.getD_some, he]; exact ⟨s, c, rfl, hS⟩
theorem own_ints {s : Option Addr} {n c : Nat} (h : OwnS w 3 1 s n c (L.flatMap intC)) (hs : ∀ k, ob s k → lo ≤ k) : IntS (Iv lo w.heap.size) w s L :=
  h.sl (by decide) rfl (fun _ _ => rfl) (fun k hk => ⟨hs k hk, h.lt hk⟩)
end outs

/-! Streams that are built. -/
def boC (b : Bool) : List Value := [.bool b]
abbrev BoS (F : Nat → Prop) (w : World) (s : Option Addr) (l : List Bool) : Prop := Sl F w s 1 l (Fl boC)
abbrev IIS (F : Nat → Prop) (w : World) (s : Option Addr) (L : List (List Int)) : Prop := Sl F w s 1 L (SlC F 1 (Fl intC))
theorem ii_stab (F : Nat → Prop) : Stab F (SlC F 1 (Fl intC)) := SlC.stab (int_stab F)
def inI (x : Int) : Bool := decide (-1000000000 ≤ x ∧ x ≤ 1000000000)
def sumI (L : List (List Int)) : Nat := (L.map List.length).sum
def buildE (L : List (List Int)) (C : List Bool) : Int × Mem × List Vl :=
  if L.length = C.length then (if (L.all fun l => l.all inI) = true then (if sumI L ≤ 400 then (0, memC (buildF 0 L C).1, (buildF 0 L C).2) else (5, [], [])) else (3, [], [])) else (2, [], [])
def buN (L : List (List Int)) (C : List Bool) (i : Nat) : List (List Vl) × List Vl := buildF 0 (L.take i) C
def buI (L : List (List Int)) (C : List Bool) (i : Nat) (x : List Int) (j : Nat) : List (List Vl) := (buN L C i).1 ++ builtS (sumI (L.take i)) x.length (endV (C.getD i false)) 0 (x.take j)
section bu
variable {L : List (List Int)} {C : List Bool} {i j : Nat} {x : List Int} {y : Int}
theorem suI_step (hx : L[i]? = some x) : sumI (L.take (i + 1)) = sumI (L.take i) + x.length := by
  unfold sumI; rw [List.take_add_one, hx]; simp
theorem suI_le (L : List (List Int)) (i : Nat) : sumI (L.take i) ≤ sumI L := by
  have h : sumI L = sumI (L.take i) + sumI (L.drop i) := by
    unfold sumI; rw [← List.sum_append, ← List.map_append, List.take_append_drop]
  omega
theorem builtS_snoc (base n : Nat) (e : Vl) (y : Int) : ∀ (l : List Int) (k : Nat), builtS base n e k (l ++ [y]) = builtS base n e k l ++ [[(1, y), restV base (k + l.length + 1) n e]]
  | [], k => rfl
  | z :: l, k => by
    have ih := builtS_snoc base n e y l (k + 1)
    rw [List.cons_append, builtS, ih, builtS, List.length_cons, show k + 1 + l.length + 1 = k + (l.length + 1) + 1 by omega, List.cons_append]
theorem buildF_snoc (x : List Int) : ∀ (L : List (List Int)) (base : Nat) (C : List Bool), buildF base (L ++ [x]) C = ((buildF base L C).1 ++ builtS (base + sumI L) x.length (endV (C.getD L.length false)) 0 x, (buildF base L C).2 ++ [restV (base + sumI L) 0 x.length (endV (C.getD L.length false))])
  | [], base, C => by
    cases C <;> simp [buildF, sumI]
  | z :: L, base, C => by
    have ih := buildF_snoc x L (base + z.length) C.tail
    have e : C.tail.getD L.length false = C.getD (L.length + 1) false := by cases C <;> simp
    have e2 : sumI (z :: L) = z.length + sumI L := by simp [sumI]
    rw [List.cons_append, buildF, ih, buildF, e, e2, List.length_cons, Nat.add_assoc, List.append_assoc, List.cons_append]
theorem buN_on (hx : L[i]? = some x) : buN L C (i + 1) = ((buN L C i).1 ++ builtS (sumI (L.take i)) x.length (endV (C.getD i false)) 0 x, (buN L C i).2 ++ [restV (sumI (L.take i)) 0 x.length (endV (C.getD i false))]) := by
  have hi := (List.getElem?_eq_some_iff.1 hx).1
  have h := buildF_snoc x (L.take i) 0 C
  rw [List.length_take, Nat.min_eq_left (by omega), Nat.zero_add] at h
  unfold buN; rw [List.take_add_one, hx]; exact h
theorem buI_0 : buI L C i x 0 = (buN L C i).1 := by unfold buI; simp [builtS]
theorem buI_on (hy : x[j]? = some y) : buI L C i x (j + 1) = buI L C i x j ++ [[(1, y), restV (sumI (L.take i)) (j + 1) x.length (endV (C.getD i false))]] := by
  have hj := (List.getElem?_eq_some_iff.1 hy).1
  unfold buI; rw [List.take_add_one, hy, Option.toList_some, builtS_snoc, List.append_assoc, List.length_take, Nat.min_eq_left (by omega), Nat.zero_add]
theorem buI_end (hx : L[i]? = some x) (h : ¬ (j : Int) < (x.length : Int)) : buI L C i x j = (buN L C (i + 1)).1 := by
  rw [buN_on hx]; unfold buI; rw [List.take_of_length_le (l := x) (by omega)]
theorem buN_2 (hx : L[i]? = some x) : (buN L C (i + 1)).2 = (buN L C i).2 ++ [restV (sumI (L.take i)) 0 x.length (endV (C.getD i false))] := by rw [buN_on hx]
theorem buN_len (L : List (List Int)) (C : List Bool) (i : Nat) : (buN L C i).1.length = sumI (L.take i) := (buildF_len _ _ _).1
theorem buN_len2 (L : List (List Int)) (C : List Bool) (hi : i ≤ L.length) : (buN L C i).2.length = i := by
  have := (buildF_len (L.take i) 0 C).2; unfold buN; rw [this, List.length_take]; omega
theorem buI_len (hj : j ≤ x.length) : (buI L C i x j).length = sumI (L.take i) + j := by
  unfold buI; rw [List.length_append, buN_len, builtS_len, List.length_take, Nat.min_eq_left hj]
theorem buN_end (h : ¬ (i : Int) < (L.length : Int)) : buN L C i = buildF 0 L C := by unfold buN; rw [List.take_of_length_le (by omega)]
theorem bo_at {c : Bool} (h : C[i]? = some c) : C.getD i false = c := by rw [List.getD_eq_getElem?_getD, h]; rfl
end bu
def OutU (lo : Nat) (w : World) (v : Value) (r : Int × Mem × List Vl) : Prop := ∃ s n c sv cv, v = .tuple #[.agg #[.slice s n c], .slice sv r.2.2.length cv, .int .i64 r.1] ∧ n = r.2.1.length ∧ MemS (Iv lo w.heap.size) w s r.2.1 ∧ VlS (Iv lo w.heap.size) w sv r.2.2
section outu
variable {lo : Nat} {w : World} {L : List (List Int)} {C : List Bool}
theorem outU_e (lo : Nat) (w : World) (e : Int) : OutU lo w (.tuple #[.agg #[.slice none 0 0], .slice none 0 0, .int .i64 e]) (e, [], []) := ⟨none, 0, 0, none, 0, rfl, rfl, memS_nil _ _, fun i x hx => by simp at hx⟩
theorem outU_2 (h : ¬ L.length = C.length) : OutU lo w (.tuple #[.agg #[.slice none 0 0], .slice none 0 0, .int .i64 2]) (buildE L C) := by unfold buildE; rw [if_neg h]; exact outU_e _ _ _
theorem outU_3 (h : L.length = C.length) (h2 : ¬ (L.all fun l => l.all inI) = true) : OutU lo w (.tuple #[.agg #[.slice none 0 0], .slice none 0 0, .int .i64 3]) (buildE L C) := by unfold buildE; rw [if_pos h, if_neg h2]; exact outU_e _ _ _
theorem outU_5 (h : L.length = C.length) (h2 : (L.all fun l => l.all inI) = true) (h3 : ¬ sumI L ≤ 400) : OutU lo w (.tuple #[.agg #[.slice none 0 0], .slice none 0 0, .int .i64 5]) (buildE L C) := by unfold buildE; rw [if_pos h, if_pos h2, if_neg h3]; exact outU_e _ _ _
theorem outU_0 {s sv : Option Addr} {c n nv cv : Nat} {T : List (SE Vl Rd)} (h : L.length = C.length) (h2 : (L.all fun l => l.all inI) = true) (h3 : sumI L ≤ 400) (hT : MTab w 65 36 2 vlC 115 2 rdC s c T) (hm : T.map SE.abs = memC (buildF 0 L C).1) (hn : n = T.length) (hg : ∀ k, mtb s T k → lo ≤ k)
    (hO : OwnS w 36 2 sv nv cv ((buildF 0 L C).2.flatMap vlC)) (hv : ∀ k, ob sv k → lo ≤ k) (hnv : nv = (buildF 0 L C).2.length) : OutU lo w (.tuple #[.agg #[.slice s n c], .slice sv nv cv, .int .i64 0]) (buildE L C) := by
  unfold buildE; rw [if_pos h, if_pos h2, if_pos h3]
  subst hnv
  have hr := MTab.readM hT (F := Iv lo w.heap.size) (fun k hk => ⟨hg k hk, hT.lt hk⟩)
  rw [hm] at hr
  exact ⟨s, n, c, sv, cv, rfl, by rw [hn, ← hm, List.length_map], hr, hO.sl (by decide) rfl (fun _ _ => rfl) (fun k hk => ⟨hv k hk, hO.lt hk⟩)⟩
end outu
section bu2
variable {L : List (List Int)} {C : List Bool} {i j base k n : Nat} {x : List Int} {y : Int} {e : Vl}
theorem bu_step {T : List (SE Vl Rd)} {t : SE Vl Rd} (hT : T.map SE.abs = memC (buI L C i x j)) (hy : x[j]? = some y) (he : t.abs = ([(1, y), restV (sumI (L.take i)) (j + 1) x.length (endV (C.getD i false))], [])) : (T ++ [t]).map SE.abs = memC (buI L C i x (j + 1)) := by
  rw [List.map_append, hT, buI_on hy]
  simp [memC, he]
end bu2

/-! A slice that is given room; slices put together. -/
section room
variable {P : Program} {N : Nat} {ρ : Nat → Value} {w w' : World} {T Ty t e : TypeId} {x y : Operand} {d : Option Tmp} {p : String} {a : Array Edge} {g : Option (Nat × Bool)} {r : Option Nat} {ds : List Deferred} {lo rest : List Oper} {K : (Nat → Value) → World → Prop} {s : Option Addr} {n cap size : Nat}
theorem rn_cap {E : TypeId} {len : Nat} (ht : P.underlying T = some (.slice E)) (hx : ev N ρ x = .slice s len cap) :
    Rn P N ⟨d, .call { callee := .builtin .cap, args := #[x], argTypes := #[T] }, t, p, a, g⟩ ρ w (.int .i64 cap) w :=
  ⟨fun _ h => (by cases h), by simp [execOp, resolve, hx, invoke, builtin, Builtin.cap_, run_underlying ht, goInt]⟩
theorem rn_sub00 {m : Int} (hx : ev N ρ x = .int .i64 m) (hy : ev N ρ y = .int .i64 (((0 : Nat) : Int) - ((0 : Nat) : Int))) (h : -9223372036854775808 ≤ m ∧ m < 9223372036854775808) : Rn P N ⟨d, .binOp .sub T x y Ty, t, p, a, g⟩ ρ w (.int .i64 m) w := by
  have h2 := rn_sub (P := P) (d := d) (T := T) (Ty := Ty) (t := t) (p := p) (a := a) (g := g) (w := w) hx hy (by omega)
  have e : m - (((0 : Nat) : Int) - ((0 : Nat) : Int)) = m := by omega
  rw [e] at h2; exact h2
theorem lx_appendZ {z : List Value} {kn : IntKind} (bytes k : Nat) (hw : Want N lo ⟨d, .call { callee := .builtin .append, args := #[x, y], argTypes := #[T, Ty] }, t, p, a, g⟩ ρ true) (ht : P.underlying T = some (.slice e)) (htn : P.underlying Ty = some (.int kn)) (hi : TI P e z size bytes) (hsz : 0 < size) (hzl : z.length = size) (hby : bytes ≤ 65536)
    (hx : ev N ρ x = .slice none 0 0) (hy : ev N ρ y = .int .i64 (k : Int)) (h0 : 0 < k) (hbd : k ≤ 1073741824)
    (kk : ∀ (b c : Nat) (w' : World), b = w.heap.size → Ext w w' → OwnS w' e size (some ⟨b, 0, none⟩) 0 c [] → LX r P N ds lo K rest (up ρ d (.slice (some ⟨b, 0, none⟩) k c)) w') :
    LX r P N ds lo K (⟨d, .call { callee := .builtin .append, args := #[x, y], argTypes := #[T, Ty] }, t, p, a, g⟩ :: rest) ρ w := by
  obtain ⟨i, u, hinf, hz, hzu, rfl, hb⟩ := hi
  have hprod : (0 + k) * i.bytes ≤ 140737488355328 := by rw [hb, Nat.zero_add]; exact Nat.le_trans (Nat.mul_le_mul hbd hby) (by decide)
  have hr := Go.Lib.run_append_grow_zeros (P := P) w T Ty t e i u .i64 kn ht htn hinf hz none 0 0 [] (run_firstCells_none w.drew i.size 0 0 0) k h0 hsz (by omega) (by omega) (by rw [Nat.zero_add] at hprod; omega) (growslice_fits (by omega) hprod)
  simp only [Nat.zero_add] at hr
  have hge := grownCap_ge w k 0 e
  have hcm := grownCap_le_maxLen w k 0 e (by unfold maxLen; omega)
  have hOwn : OwnS (w.drew.alloc (Obj.cells (#[] ++ Builtin.zeroCells u.cells k ++ Builtin.zeroCells u.cells (grownCap w k 0 e - k)) e)) e i.size (some ⟨w.heap.size, 0, none⟩) 0 (grownCap w k 0 e) [] := by
    refine ⟨by simp, .inr ⟨w.heap.size, 0, _, rfl, Blk.alloc w.drew _ e, Nat.zero_le _, hcm, ?_, by simp⟩⟩
    simp only [Array.length_toList, Array.size_append, List.size_toArray, size_zeroCells, hzu, hzl, List.length_nil, Nat.zero_add, ← Nat.add_mul]
    refine Nat.le_of_eq ?_
    congr 1
    omega
  generalize Obj.cells (#[] ++ Builtin.zeroCells u.cells k ++ Builtin.zeroCells u.cells (grownCap w k 0 e - k)) e = O at hr hOwn
  have hx2 : Ext w (w.drew.alloc O) := (ext_drew w).trans' (ext_alloc _ _)
  exact lx_value hw (v := .slice (some ⟨w.heap.size, 0, none⟩) k (grownCap w k 0 e)) ⟨fun _ h => (by cases h), by simp [execOp, resolve, invoke, builtin, hx, hy, hr]⟩ (kk _ _ _ rfl hx2 hOwn)
end room
section cat
variable {L : List (List Int)} {i : Nat} {x : List Int}
theorem flat_on (hx : L[i]? = some x) : (L.take (i + 1)).flatten.flatMap intC = (L.take i).flatten.flatMap intC ++ x.flatMap intC := by
  rw [List.take_add_one, hx, Option.toList_some, List.flatten_append, List.flatMap_append]; simp
theorem flat_end (h : ¬ (i : Int) < (L.length : Int)) : L.take i = L := List.take_of_length_le (by omega)
theorem flat_sum (L : List (List Int)) : L.flatten.length = sumI L := by unfold sumI; rw [List.length_flatten]
theorem any_noI (l : List Int) : (l.any fun z => !inI z) = !(l.all inI) := by
  induction l with
  | nil => rfl
  | cons z l ih => rw [List.any_cons, List.all_cons, ih, Bool.not_and]
theorem flat_any : ∀ L : List (List Int), (L.flatten.any fun z => !inI z) = !(L.all fun l => l.all inI)
  | [] => rfl
  | l :: L => by rw [List.flatten_cons, List.any_append, flat_any L, any_noI, List.all_cons, Bool.not_and]
def cloV (e : Vl) (base n : Nat) : Vl := if n = 0 then e else (4, (base : Int))
theorem clo_0 (base n : Nat) (e : Vl) : restV base 0 n e = cloV e base n := by
  unfold restV cloV
  by_cases h : n = 0
  · rw [if_pos h, if_neg (by omega)]
  · rw [if_neg h, if_pos (by omega), Nat.add_zero]
theorem clo_j {base j n : Nat} (e : Vl) (h : j < n) : restV base (j + 1) n e = cloV e (base + (j + 1)) (n - 1 - j) := by
  unfold restV cloV
  by_cases h2 : n - 1 - j = 0
  · rw [if_pos h2, if_neg (by omega)]
  · rw [if_neg h2, if_pos (by omega)]
end cat
section sube
variable {P : Program} {N : Nat} {ρ : Nat → Value} {w : World} {T Ty t : TypeId} {x y : Operand} {d : Option Tmp} {p : String} {a : Array Edge} {g : Option (Nat × Bool)}
theorem rn_subE {m n : Nat} (q : Nat) (hx : ev N ρ x = .int .i64 (m : Int)) (hy : ev N ρ y = .int .i64 (n : Int)) (h : m = q + n ∧ m < 9223372036854775808) : Rn P N ⟨d, .binOp .sub T x y Ty, t, p, a, g⟩ ρ w (.int .i64 (q : Int)) w := by
  have h2 := rn_subN (P := P) (d := d) (T := T) (Ty := Ty) (t := t) (p := p) (a := a) (g := g) (w := w) hx hy (by omega)
  rwa [show m - n = q by omega] at h2
end sube
theorem bu_stepP {L : List (List Int)} {C : List Bool} {i j k c1 c2 : Nat} {x : List Int} {y : Int} {s1 s2 : Option Addr} {T T2 : List (SE Vl Rd)} {v : Vl} (hT : T.map SE.abs = memC (buI L C i x j)) (hT2 : T2 = T ++ [((s1, c1, [(1, y), (0, 0)]), (none, 0, []))]) (hk : T.length = k) (hy : x[j]? = some y)
    (hv : v = restV (sumI (L.take i)) (j + 1) x.length (endV (C.getD i false))) : (T2.set k ((s2, c2, ([(1, y), (0, 0)] : List Vl).set 1 v), (none, 0, []))).map SE.abs = memC (buI L C i x (j + 1)) := by
  subst hk hT2 hv
  rw [List.set_append_right _ _ (Nat.le_refl _), Nat.sub_self]
  exact bu_step hT hy rfl
theorem bu_at {k c1 : Nat} {y : Int} {s1 : Option Addr} {T T2 : List (SE Vl Rd)} (hT2 : T2 = T ++ [((s1, c1, [(1, y), (0, 0)]), (none, 0, []))]) (hk : T.length = k) : T2[k]? = some ((s1, c1, [(1, y), (0, 0)]), (none, 0, [])) := by
  subst hk hT2; simp

/-! Streams that are built: the laws' sides. -/
section app0
variable {P : Program} {N : Nat} {ρ : Nat → Value} {w : World} {T t e : TypeId} {x y : Operand} {d : Option Tmp} {p : String} {a : Array Edge} {g : Option (Nat × Bool)} {r : Option Nat} {ds : List Deferred} {lo rest : List Oper} {K : (Nat → Value) → World → Prop} {s sx : Option Addr} {m cx size : Nat} {news : List Value}
end app0
section bus
variable {L : List (List Int)} {C : List Bool}
end bus

section bit
variable {L : List (List Int)} {C : List Bool} {k i n : Nat} {x : List Int}
end bit
section bsh
variable {P : Program} {N : Nat} {ρ : Nat → Value} {w : World} {T Ty t : TypeId} {x y : Operand} {d : Option Tmp} {p : String} {a : Array Edge} {g : Option (Nat × Bool)} {k i : Nat}
end bsh
theorem build_lit {P : Program} {f : FuncId} {args : List Value} {w : World} {lo : Nat} {L : List (List Int)} {C : List Bool} {r : Int × Mem × List Vl} (e : buildE L C = r) (h : CT P f args w no (fun v w => OutU lo w v (buildE L C))) : CT P f args w no (fun v w => OutU lo w v r) := by subst e; exact h
theorem str_lit {P : Program} {f : FuncId} {args : List Value} {w : World} {lo : Nat} {p : Pic} {z : Int} {r : Int × List Int × Vl} (e : strR p z = r) (h : CT P f args w no (fun v w => OutZ lo w v (strR p z))) : CT P f args w no (fun v w => OutZ lo w v r) := by subst e; exact h
/-! Integers as text. -/
section itoa
open Go.Proofs
theorem decN_dig : ∀ (f n : Nat), n < 10 ^ f → 0 < f → decN f n = Go.Lib.decDigits n
  | 0, _, _, h => by omega
  | f + 1, n, h, _ => by
    rw [decN, Go.Lib.decDigits]
    by_cases h10 : n < 10
    · rw [if_pos h10, dif_pos h10]
      have : digB n = UInt8.ofNat (48 + n) := by unfold digB; rw [Nat.mod_eq_of_lt h10]
      rw [this]
    · rw [if_neg h10, dif_neg h10]
      have hf : 0 < f := by
        rcases Nat.eq_zero_or_pos f with rfl | g
        · simp at h; omega
        · exact g
      have hn : n / 10 < 10 ^ f := by rw [Nat.pow_succ] at h; omega
      rw [decN_dig f (n / 10) hn hf]; rfl
theorem decB_itoa {n : Int} (h0 : -9223372036854775808 ≤ n) (h1 : n ≤ 9223372036854775807) : Go.Lib.itoa n = decB n := by
  have hn : n.natAbs < 10 ^ 20 := by have : (10 : Nat) ^ 20 = 100000000000000000000 := by decide
                                     omega
  unfold Go.Lib.itoa decB
  rw [decN_dig 20 n.natAbs hn (by decide)]
  split
  · rfl
  · rw [show n.toNat = n.natAbs by omega]
theorem ext_grow (w : World) (os : Array Obj) : Ext w (Go.Sort.grow w os) := ⟨rfl, rfl, rfl, by simp [Go.Sort.grow], fun k hk _ => by
  show (w.heap ++ os)[k]? = w.heap[k]?
  rw [Array.getElem?_append_left hk]⟩
theorem ext_drewN (k : Nat) (w : World) : Ext w (w.drewN k) := ⟨rfl, rfl, rfl, Nat.le_refl _, fun _ _ _ => rfl⟩
theorem tab_fr {P : Program} {name : String} {k : IntKind} {zs : List Int} {g : Nat} (hg : P.globalNamed name = some g) {S : Nat → Prop} {w w' : World} (hf : Fr S w w') (hS : ∀ j, j = g → ¬ S j) (h : Go.Lib.TabIs P w name k zs) : Go.Lib.TabIs P w' name k zs := by
  unfold Go.Lib.TabIs World.var? at h ⊢
  rw [hg] at h ⊢
  simp only [Option.bind_some] at h ⊢
  have hlt : g < w.heap.size := by
    rcases Nat.lt_or_ge g w.heap.size with hh | hh
    · exact hh
    · rw [Array.getElem?_eq_none hh] at h; simp at h
  rw [hf.block g hlt (hS g rfl)]; exact h
theorem tab_lt {P : Program} {name : String} {k : IntKind} {zs : List Int} {g : Nat} (hg : P.globalNamed name = some g) {w : World} (h : Go.Lib.TabIs P w name k zs) : g < w.heap.size := by
  unfold Go.Lib.TabIs World.var? at h
  rw [hg] at h
  simp only [Option.bind_some] at h
  rcases Nat.lt_or_ge g w.heap.size with hh | hh
  · exact hh
  · rw [Array.getElem?_eq_none hh] at h; simp at h
end itoa

/-! Decimal numbers. -/
section strs
variable {P : Program} {N : Nat} {ρ : Nat → Value} {w : World} {d : Option Tmp} {t : TypeId} {p : String} {a : Array Edge} {g : Option (Nat × Bool)} {x y z : Operand} {T Ty : TypeId} {u v : ByteArray}
end strs
section decs
variable {z : Int}
end decs

section tq
variable {A : List (List Vl)} {d i : Nat} {v : Vl} {bs bq : List UInt8} {l : List Vl} {u : Value}
theorem isVal_1 {n : Int} (h : isVal v n = true) (h1 : v.1 = 1) : -1000000000 ≤ v.2 ∧ v.2 ≤ 1000000000 := by
  unfold isVal at h; rw [if_neg (by omega), if_pos h1] at h; exact of_decide_eq_true h
end tq
theorem pic_val1 {p : Pic} {v : Vl} (h : isPicB p = true) (hv : PicV p v) : isVal v p.2.length = true := by
  rcases hv with hv | ⟨l, hl, hv⟩
  · exact (pic_vals h).1 v hv
  · exact (pic_vals h).2 l hl v hv
/-! The names: literals. -/
def memB : Mem := [([(1, 3), (4, 1)], []), ([(1, 4), (3, 0)], [])]
def hanB : List Vl := [(4, 0), (3, 0), (0, 0)]
def picN9 : Pic := ([(4, 0), (3, 0), (0, 0)], [[(1, 3), (4, 1)], [(1, 4), (3, 0)]])
theorem nm_1 : primS ⟨#[120, 111, 114]⟩ [] = ((0, 0), 10) := by decide +kernel
theorem nm_2 : primS ⟨#[110, 111, 116]⟩ [] = ((0, 0), 2) := by decide +kernel
theorem nm_3 : primS ⟨#[110, 111, 116]⟩ [(1, 1000000001)] = ((0, 0), 4) := by decide +kernel
theorem nm_4 : primS ⟨#[115, 117, 98]⟩ [(5, 3), (0, 0)] = ((0, 0), 0) := by decide +kernel
theorem nm_5 : primS ⟨#[115, 117, 98]⟩ [(5, 3), (5, 1)] = ((5, 3), 0) := by decide +kernel
theorem nm_b1 : buildE [[3, 4], [], []] [true, true, false] = (0, memB, hanB) := by decide +kernel
theorem nm_b2 : buildE [[1]] [] = (2, [], []) := by decide +kernel
theorem nm_b3 : buildE [[-1000000001]] [true] = (3, [], []) := by decide +kernel
theorem nm_d : drawR memB hanB = (0, picN9) := by decide +kernel
theorem nm_s0 : strR picN9 0 = (0, [3, 4], (3, 0)) := by decide +kernel
theorem nm_s3 : strR picN9 3 = (3, [], (0, 0)) := by decide +kernel
theorem nm_w12 : showR picN9 12 = (0, [91, 51, 44, 32, 91, 52, 44, 32, 110, 105, 108, 93, 93, 44, 32, 110, 105, 108, 44, 32, 63]) := by decide +kernel
theorem nm_w13 : showR picN9 13 = (3, []) := by decide +kernel
theorem nm_o1 : DoR memB ⟨2, (4, 0), (1, 0), (1, 1), 0⟩ = (6, [], (0, 0), []) := by kernel_rfl
theorem nm_o2 : DoR memB ⟨2, (4, 2), (1, 0), (1, 1), 0⟩ = (2, [], (0, 0), []) := by kernel_rfl
theorem Bm_B : Bm memB := okM_Bm (by decide +kernel)
theorem Bp_B : Bp picN9 := by
  have h := drawR_Bp (m := memB) (l := hanB) Bm_B (by decide)
  rw [nm_d] at h; exact h
theorem do_lit {P : Program} {f : FuncId} {args : List Value} {w : World} {lo : Nat} {m : Mem} {o : Op} {r : Out} (e : DoR m o = r) (h : CT P f args w no (fun v w => OutD lo w v (DoR m o))) : CT P f args w no (fun v w => OutD lo w v r) := by subst e; exact h
theorem int_blk {w : World} {b : Nat} (l : List Int) (hn : l.length ≤ 100) (h : Blk w b (l.flatMap intC) 3) : IntS (fun _ => True) w (some ⟨b, 0, none⟩) l :=
  (OwnS.full (n := l.length) (size := 1) h (by simpa using flat_len (f := intC) (fun _ => rfl) l) (by unfold maxLen; omega)).sl (by decide) rfl (fun _ _ => rfl) (fun _ _ => trivial)
theorem bo_blk {w : World} {b : Nat} (l : List Bool) (hn : l.length ≤ 100) (h : Blk w b (l.flatMap boC) 4) : BoS (fun _ => True) w (some ⟨b, 0, none⟩) l :=
  (OwnS.full (n := l.length) (size := 1) h (by simpa using flat_len (f := boC) (fun _ => rfl) l) (by unfold maxLen; omega)).sl (by decide) rfl (fun _ _ => rfl) (fun _ _ => trivial)
theorem ii_blk {w : World} {b : Nat} {cs : List Value} {L : List (List Int)} (h : Blk w b cs 77) (hm : ∀ (i : Nat) (x : List Int), L[i]? = some x → ∃ (s : Option Addr) (c : Nat), cs[i]? = some (.slice s x.length c) ∧ IntS (fun _ => True) w s x) : IIS (fun _ => True) w (some ⟨b, 0, none⟩) L := fun i x hx => by
  obtain ⟨s, c, h1, h2⟩ := hm i x hx
  exact ⟨b, 0, rfl, trivial, s, c, h.cell _ (by rw [Nat.zero_add, Nat.mul_one]; exact h1), h2⟩
theorem three_of {α : Type} {a b c : α} {P : Nat → α → Prop} (h0 : P 0 a) (h1 : P 1 b) (h2 : P 2 c) : ∀ i x, [a, b, c][i]? = some x → P i x := by
  intro i x hx
  match i, hx with
  | 0, hx => injection hx with hx; subst hx; exact h0
  | 1, hx => injection hx with hx; subst hx; exact h1
  | 2, hx => injection hx with hx; subst hx; exact h2
  | k + 3, hx => simp at hx

end Go.Proofs.YtnhgfmbmfjmonaaGreatDoor

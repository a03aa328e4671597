/- Tables: owned slices of owned slices; parts of slices; rows that are made. No program stands here. -/
import Derived.Test.YtgnnegfnpgnbbaaGreatDoorHomesRep
set_option linter.unusedVariables false
set_option linter.unusedSimpArgs false
namespace Go.Eng
open Go Go.RowKit Go.Mix
/-! ### Frames between two moments -/
theorem Fr.between {S : Nat → Prop} {w0 a b : World} (h : Fr S w0 a) (k : Fr S w0 b) (hs : a.heap.size ≤ b.heap.size) :
    Fr (fun j => S j ∨ w0.heap.size ≤ j) a b :=
  ⟨k.os.trans h.os.symm, k.tape.trans h.tape.symm, k.output.trans h.output.symm, hs, fun j hj hn => by
    have h1 : ¬ S j := fun hS => hn (.inl hS)
    have h2 : j < w0.heap.size := Nat.lt_of_not_le fun hle => hn (.inr hle)
    rw [h.block j h2 h1, k.block j h2 h1]⟩
theorem mA {i A : Nat} {S : Nat → Prop} {a w : World} (hi : i ≠ A) (c : if i = A then Ext a w else Fr S a w) : Fr S a w := by rwa [if_neg hi] at c
theorem mB {A : Nat} {S : Nat → Prop} {a w : World} (c : if A = A then Ext a w else Fr S a w) : Ext a w := by rwa [if_pos rfl] at c
theorem mC {A : Nat} {S : Nat → Prop} {w u : World} (c : if A = A then Ext { w with drawn := w.drawn + 1 } u else Fr S { w with drawn := w.drawn + 1 } u) : Ext w u := (ext_drawn w).trans' (mB c)
theorem mG {S : Nat → Prop} {w u : World} (c : Fr S { w with drawn := w.drawn + 1 } u) : Fr S w u := (Ext.fr (ext_drawn w)).trans c (fun _ _ h => h)
theorem mD {i A : Nat} {S : Nat → Prop} {w u : World} (hi : i ≠ A) (c : if i = A then Ext { w with drawn := w.drawn + 1 } u else Fr S { w with drawn := w.drawn + 1 } u) : Fr S w u := mG (mA hi c)
theorem mE {i A : Nat} {S : Nat → Prop} {a w : World} (hi : i ≠ A) (c : Ext a w) : if i = A then Fr S a w else Ext a w := by rwa [if_neg hi]
theorem mF {A : Nat} {S : Nat → Prop} {a w : World} (c : Fr S a w) : if A = A then Fr S a w else Ext a w := by rwa [if_pos rfl]
theorem mT {i A : Nat} {S : Nat → Prop} {a w : World} (hi : A ≠ i) (c : if i = A then Fr S a w else Ext a w) : Ext a w := by rwa [if_neg (fun e => hi e.symm)] at c
/-- of two effects: the one that a table's row has, or nothing -/
theorem mS {i A : Nat} {S : Nat → Prop} {a w : World} (c : if i = A then Fr S a w else Ext a w) : Fr S a w := by
  split at c
  · exact c
  · exact c.fr
theorem Fr.new' {S S' : Nat → Prop} {a b c : World} (h : Fr S a b) (k : Fr S' b c) (hs : ∀ i, S' i → (S i ∨ a.heap.size ≤ i)) : Fr S a c :=
  h.trans k fun i hi hk => (hs i hk).elim id (fun h => absurd h (by omega))
theorem Fr.wide {S : Nat → Prop} {a b c : World} (h : Fr S a b) (k : Fr (fun j => S j ∨ a.heap.size ≤ j) b c) : Fr S a c := h.new' k (fun _ h => h)
abbrev cellsOf {w : World} {b : Nat} {cs : List Value} {T : TypeId} (_ : Blk w b cs T) : List Value := cs
section slices
variable {P : Program} {N : Nat} {ρ : Nat → Value} {w w' : World} {v : Value} {d : Option Tmp} {t : TypeId} {p : String} {a : Array Edge} {g : Option (Nat × Bool)} {T E : TypeId} {s : Option Addr} {n cap size k : Nat}
variable {r : Option Nat} {ds : List Deferred} {lo rest : List Oper} {K : (Nat → Value) → World → Prop} {x y z : Operand} {xs : List Value}
theorem do_new2 {o : Oper} {cs : List Value} (h : Rn P N o ρ w (.pointer (some ⟨w.heap.size, 0, none⟩)) (w.alloc (.cells cs.toArray T))) {m : Nat} (hx : m ≤ w.heap.size) :
    Do P N o ρ w (fun v w' => Ext w w' ∧ ∃ b, v = .pointer (some ⟨b, 0, none⟩) ∧ m ≤ b ∧ (w.heap.size ≤ b ∧ b < w'.heap.size) ∧ Blk w' b cs T) :=
  do_value h ⟨ext_alloc _ _, _, rfl, hx, ⟨Nat.le_refl _, by simp⟩, by have := Blk.alloc w cs.toArray T; simpa using this⟩
/-- a new block, whose number its interval tells -/
theorem do_new3 {o : Oper} {cs : List Value} (h : Rn P N o ρ w (.pointer (some ⟨w.heap.size, 0, none⟩)) (w.alloc (.cells cs.toArray T))) {m : Nat} (hx : m ≤ w.heap.size) :
    Do P N o ρ w (fun v w' => Ext w w' ∧ v = .pointer (some ⟨w.heap.size, 0, none⟩) ∧ m ≤ w.heap.size ∧ w.heap.size < w'.heap.size ∧ Blk w' w.heap.size cs T) :=
  do_value h ⟨ext_alloc _ _, rfl, hx, by simp, by have := Blk.alloc w cs.toArray T; simpa using this⟩
/-- a whole block is stored -/
theorem do_sto {cs vs : List Value} {u : Value} {sT T' : TypeId} {n b : Nat} {J : Nat × Nat} (hs : ∀ w, (sizeOf sT).run P w = .ok n w) (hx : ev N ρ x = .pointer (some ⟨b, 0, none⟩)) (hy : ev N ρ y = u) (hu : u.cells = vs.toArray) (hn : vs.length = n) (h1 : vs.all (fun u => u.oneCell') = true)
    (B : Blk w b cs T') (hl : cs.length = n) (hJ : J.1 ≤ b ∧ b < J.2) : Do P N ⟨d, .store sT x y, t, p, a, g⟩ ρ w (fun v w' => Fr (inI J) w w' ∧ v = undef ∧ Blk w' b vs T') := by
  subst hn
  obtain ⟨w', hr, hB, hf⟩ := run_storeCells_blk (P := P) b T' vs 0 cs 0 w B (by simp [hl]) (fun u hu => List.all_eq_true.1 h1 u hu)
  refine do_store (w' := w') ⟨fun _ h => (by cases h), ?_⟩ ⟨hf.mono (fun i _ hi => by subst hi; exact hJ), rfl, ?_⟩
  · simp [execOp, hx, hy, Instr.storeAt, Instr.sureAddr, storeVar, hs, hu, hr]
  · have := hB; simp only [Nat.add_zero, Nat.zero_add, List.take_zero, List.nil_append] at this
    rwa [← hl, List.drop_length, List.append_nil] at this
theorem do_newS2 {o : Oper} {n : Nat} {cs : List Value} (h : Rn P N o ρ w (.slice (some ⟨w.heap.size, 0, none⟩) n n) (w.alloc (.cells cs.toArray T))) {m : Nat} (hx : m ≤ w.heap.size) :
    Do P N o ρ w (fun v w' => Ext w w' ∧ ∃ b, v = .slice (some ⟨b, 0, none⟩) n n ∧ m ≤ b ∧ (w.heap.size ≤ b ∧ b < w'.heap.size) ∧ Blk w' b cs T) :=
  do_value h ⟨ext_alloc _ _, _, rfl, hx, ⟨Nat.le_refl _, by simp⟩, by have := Blk.alloc w cs.toArray T; simpa using this⟩
/-- the rest of a slice -/
theorem rn_sliceFrom (k : Nat) {m : Int} (ht : P.underlying T = some (.slice E)) (hs : ∀ w, (sizeOf E).run P w = .ok size w) (hx : ev N ρ x = .slice s n cap) (hy : ev N ρ y = .int .i64 m) (hm : m = (k : Int)) (hk : k ≤ n) :
    Rn P N ⟨d, .slice T x (some y) none none, t, p, a, g⟩ ρ w (.slice (dropAt s k cap size) (n - k) (cap - k)) w :=
  ⟨fun _ h => (by cases h), by
    subst hm
    have h1 : (0 : Int) ≤ (k : Int) ∧ (k : Int) ≤ (n : Int) := by omega
    simp [execOp, hx, hy, Instr.sliceAt, run_underlying ht, Instr.slice, Instr.sliceBounds, run_sliceBound, hs, h1, dropAt]⟩
/-- the first part of a slice -/
theorem rn_sliceTo (k : Nat) {m : Int} (ht : P.underlying T = some (.slice E)) (hs : ∀ w, (sizeOf E).run P w = .ok size w) (hx : ev N ρ x = .slice s n cap) (hy : ev N ρ y = .int .i64 m) (hm : m = (k : Int)) (hk : k ≤ cap) :
    Rn P N ⟨d, .slice T x none (some y) none, t, p, a, g⟩ ρ w (.slice s k cap) w :=
  ⟨fun _ h => (by cases h), by
    subst hm
    have h1 : (0 : Int) ≤ (k : Int) ∧ (k : Int) ≤ (cap : Int) := by omega
    have ha : s.map (fun x => x.add 0) = s := by cases s <;> simp [Addr.add]
    simp [execOp, hx, hy, Instr.sliceAt, run_underlying ht, Instr.slice, Instr.sliceBounds, run_sliceBound, hs, h1, ha]⟩
end slices

/-! ### Tables -/
/-- a list of a table: where it lies, its room, what it reads as -/
abbrev TE (α : Type) := Option Addr × Nat × List α
def TE.v {α : Type} (e : TE α) : Value := .slice e.1 e.2.2.length e.2.1
structure Tab {α : Type} (w : World) (eO eI : TypeId) (sz : Nat) (cells : α → List Value) (s : Option Addr) (cap : Nat) (T : List (TE α)) : Prop where
  out : OwnS w eO 1 s T.length cap (T.map TE.v)
  own : ∀ (i : Nat) (e : TE α), T[i]? = some e → OwnS w eI sz e.1 e.2.2.length e.2.1 (e.2.2.flatMap cells)
  sep : ∀ (i : Nat) (e : TE α), T[i]? = some e → ∀ k, ob e.1 k → ¬ ob s k
  apart : ∀ (i j : Nat) (e f : TE α), T[i]? = some e → T[j]? = some f → i ≠ j → ∀ k, ob e.1 k → ¬ ob f.1 k
/-- its blocks -/
def tb {α : Type} (s : Option Addr) (T : List (TE α)) (k : Nat) : Prop := ob s k ∨ ∃ (i : Nat) (e : TE α), T[i]? = some e ∧ ob e.1 k
section tab
variable {α : Type} {w w1 w' : World} {eO eI : TypeId} {sz cap : Nat} {cells : α → List Value} {s : Option Addr} {T : List (TE α)} {e : TE α} {i : Nat}
theorem tb_nil {q : Prop} {k : Nat} (h : tb none ([] : List (TE α)) k) : q := by
  rcases h with h | ⟨i, e, h, _⟩
  · exact ob_none h
  · simp at h
theorem Tab.nil (w : World) (eO eI : TypeId) (sz : Nat) (cells : α → List Value) : Tab w eO eI sz cells none 0 [] :=
  ⟨OwnS.nil _ _ _, fun i e h => by simp at h, fun i e h => by simp at h, fun i j e f h => by simp at h⟩
theorem Tab.fr (h : Tab w eO eI sz cells s cap T) {S : Nat → Prop} (hf : Fr S w w') (hS : ∀ k, tb s T k → ¬ S k) : Tab w' eO eI sz cells s cap T :=
  ⟨h.out.fr hf (fun k hk => hS k (.inl hk)), fun i e he => (h.own i e he).fr hf (fun k hk => hS k (.inr ⟨i, e, he, hk⟩)), h.sep, h.apart⟩
theorem Tab.ext (h : Tab w eO eI sz cells s cap T) (hf : Ext w w') : Tab w' eO eI sz cells s cap T := h.fr hf (fun _ _ hn => hn)
theorem Tab.lt (h : Tab w eO eI sz cells s cap T) {k : Nat} (hk : tb s T k) : k < w.heap.size := by
  rcases hk with hk | ⟨i, e, he, hk⟩
  · exact h.out.lt hk
  · exact (h.own i e he).lt hk
/-- a list more, at the end -/
theorem Tab.snoc {s' : Option Addr} {cap' : Nat} (h : Tab w1 eO eI sz cells s cap T) (he : OwnS w1 eI sz e.1 e.2.2.length e.2.1 (e.2.2.flatMap cells)) (hn : ∀ k, ob e.1 k → ¬ tb s T k)
    (ha : Apd w1 eO 1 s (T.length + 1) (T.map TE.v ++ [e.v]) s' cap' w') : Tab w' eO eI sz cells s' cap' (T ++ [e]) ∧ ∀ k, tb s' (T ++ [e]) k → (tb s T k ∨ ob e.1 k ∨ w1.heap.size ≤ k) := by
  have key : ∀ {i f}, (T ++ [e])[i]? = some f → (T[i]? = some f) ∨ (i = T.length ∧ f = e) := fun {i f} hf => by
    rcases Nat.lt_or_ge i T.length with h1 | h1
    · rw [List.getElem?_append_left h1] at hf; exact .inl hf
    · rw [List.getElem?_append_right h1] at hf
      rcases Nat.eq_zero_or_pos (i - T.length) with h2 | h2
      · rw [h2] at hf; simp at hf; exact .inr ⟨by omega, hf.symm⟩
      · rw [List.getElem?_eq_none (by simp; omega)] at hf; cases hf
  refine ⟨⟨?_, ?_, ?_, ?_⟩, ?_⟩
  · have := ha.own
    simpa using this
  · intro i f hf
    rcases key hf with hf | ⟨_, rfl⟩
    · exact (h.own i f hf).fr ha.fr (h.sep i f hf)
    · exact he.fr ha.fr (fun k hk hs => hn k hk (.inl hs))
  · intro i f hf k hk hs
    rcases key hf with hf | ⟨_, rfl⟩
    · rcases ha.blk k hs with h1 | h1
      · exact h.sep i f hf k hk h1
      · have := (h.own i f hf).lt hk; omega
    · rcases ha.blk k hs with h1 | h1
      · exact hn k hk (.inl h1)
      · have := he.lt hk; omega
  · intro i j f g hf hg hij k hk hk2
    rcases key hf with hf1 | ⟨hi, rfl⟩ <;> rcases key hg with hg1 | ⟨hj, rfl⟩
    · exact h.apart i j f g hf1 hg1 hij k hk hk2
    · exact hn k hk2 (.inr ⟨i, f, hf1, hk⟩)
    · exact hn k hk (.inr ⟨j, g, hg1, hk2⟩)
    · omega
  · intro k hk
    rcases hk with hk | ⟨i, f, hf, hk⟩
    · rcases ha.blk k hk with h1 | h1
      · exact .inl (.inl h1)
      · exact .inr (.inr h1)
    · rcases key hf with hf | ⟨_, rfl⟩
      · exact .inl (.inr ⟨i, f, hf, hk⟩)
      · exact .inr (.inl hk)
/-- a list that is put in place of another one -/
theorem Tab.set {w2 : World} {e' : TE α} (h : Tab w eO eI sz cells s cap T) (hi : T[i]? = some e) (hE : Fr (ob e.1) w w1) (he : OwnS w1 eI sz e'.1 e'.2.2.length e'.2.1 (e'.2.2.flatMap cells))
    (hb : ∀ k, ob e'.1 k → (ob e.1 k ∨ w.heap.size ≤ k)) (hE2 : Fr (ob s) w1 w2) (ho : OwnS w2 eO 1 s T.length cap ((T.map TE.v).take (i * 1) ++ [e'.v] ++ (T.map TE.v).drop ((i + 1) * 1))) :
    Tab w2 eO eI sz cells s cap (T.set i e') ∧ ∀ k, tb s (T.set i e') k → (tb s T k ∨ w.heap.size ≤ k) := by
  have hlt : i < T.length := (List.getElem?_eq_some_iff.1 hi).1
  have key : ∀ {j f}, (T.set i e')[j]? = some f → (j ≠ i ∧ T[j]? = some f) ∨ (j = i ∧ f = e') := fun {j f} hf => by
    by_cases hj : i = j
    · subst hj; rw [List.getElem?_set_self hlt] at hf; exact .inr ⟨rfl, (Option.some.inj hf).symm⟩
    · rw [List.getElem?_set_ne hj] at hf; exact .inl ⟨fun h => hj h.symm, hf⟩
  have hnb : ∀ k, ob e'.1 k → ¬ ob s k := fun k hk hs => by
    rcases hb k hk with h1 | h1
    · exact h.sep i e hi k h1 hs
    · have := h.out.lt hs; omega
  refine ⟨⟨?_, ?_, ?_, ?_⟩, ?_⟩
  · have : (T.set i e').map TE.v = (T.map TE.v).take (i * 1) ++ [e'.v] ++ (T.map TE.v).drop ((i + 1) * 1) := by
      rw [List.map_set, Nat.mul_one, Nat.mul_one, List.set_eq_take_append_cons_drop, if_pos (by simpa using hlt), List.append_assoc, List.singleton_append]
    rw [List.length_set, this]; exact ho
  · intro j f hf
    rcases key hf with ⟨hj, hf⟩ | ⟨_, rfl⟩
    · exact ((h.own j f hf).fr hE (fun k hk h2 => h.apart j i f e hf hi hj k hk h2)).fr hE2 (h.sep j f hf)
    · exact he.fr hE2 hnb
  · intro j f hf k hk
    rcases key hf with ⟨_, hf⟩ | ⟨_, rfl⟩
    · exact h.sep j f hf k hk
    · exact hnb k hk
  · intro j l f g hf hg hjl k hk hk2
    have h3 : ∀ j f, j ≠ i → T[j]? = some f → ob f.1 k → ob e'.1 k → False := fun j f hj hf h1 h2 => by
      rcases hb k h2 with h4 | h4
      · exact h.apart j i f e hf hi hj k h1 h4
      · have := (h.own j f hf).lt h1; omega
    rcases key hf with ⟨hj, hf1⟩ | ⟨hj, rfl⟩ <;> rcases key hg with ⟨hl, hg1⟩ | ⟨hl, rfl⟩
    · exact h.apart j l f g hf1 hg1 hjl k hk hk2
    · exact h3 j f hj hf1 hk hk2
    · exact h3 l g hl hg1 hk2 hk
    · omega
  · intro k hk
    rcases hk with hk | ⟨j, f, hf, hk⟩
    · exact .inl (.inl hk)
    · rcases key hf with ⟨_, hf⟩ | ⟨_, rfl⟩
      · exact .inl (.inr ⟨j, f, hf, hk⟩)
      · rcases hb k hk with h1 | h1
        · exact .inl (.inr ⟨i, e, hi, h1⟩)
        · exact .inr h1
/-- the table as it is read -/
theorem Tab.read (h : Tab w eO eI sz cells s cap T) (hsz : 0 < sz) (hc : ∀ x, (cells x).length = sz) {F : Nat → Prop} (hF : ∀ k, tb s T k → F k) : Sl F w s 1 (T.map (·.2.2)) (SlC F sz (Fl cells)) := by
  refine h.out.slC ⟨by simp, fun i l hl => ?_⟩ (fun k hk => hF k (.inl hk))
  rw [List.getElem?_map] at hl
  cases he : T[i]? with
  | none => rw [he] at hl; cases hl
  | some e =>
    rw [he] at hl; simp only [Option.map_some, Option.some.injEq] at hl; subst hl
    exact ⟨e.1, e.2.1, by rw [List.getElem?_map, he]; rfl, (h.own i e he).sl hsz rfl (fun x _ => hc x) (fun k hk => hF k (.inr ⟨i, e, he, hk⟩))⟩
/-- a list of the table, from its cell -/
theorem Tab.get (h : Tab w eO eI sz cells s cap T) (hi : T[i]? = some e) : ∃ b o, s = some ⟨b, o, none⟩ ∧ w.cell? ⟨b, o + i * 1, none⟩ = some (.slice e.1 e.2.2.length e.2.1) := by
  obtain ⟨b, o, h1, _, h3⟩ := h.out.sl (by decide) (l := T.map TE.v) (cells := fun v => [v]) (by simp) (fun _ _ => rfl) (F := fun _ => True) (fun _ _ => trivial) i e.v (by rw [List.getElem?_map, hi]; rfl)
  refine ⟨b, o, h1, ?_⟩
  have := h3 0 _ rfl
  rw [Nat.add_zero] at this; exact this
end tab
end Go.Eng

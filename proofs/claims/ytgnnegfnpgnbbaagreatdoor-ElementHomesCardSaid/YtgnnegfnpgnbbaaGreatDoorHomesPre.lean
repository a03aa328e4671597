/- Plain laws of segments, stores and elements, and the forms in which values are read. -/
import Derived.Test.YtgnnegfnpgnbbaaGreatDoorHomesMem
import Derived.Test.YtgnnegfnpgnbbaaGreatDoorHomesMix2
import Derived.Test.YtgnnegfnpgnbbaaGreatDoorHomesMapL
import Derived.Test.YtgnnegfnpgnbbaaGreatDoorHomesMix3
import Derived.Shelf.Strings.SlTrimAscii
import Derived.Lib.AppendZerosOnto
set_option maxRecDepth 100000
set_option linter.unusedVariables false
set_option linter.unusedSimpArgs false
namespace Go.Proofs.YtgnnegfnpgnbbaaGreatDoor
open Go Go.RowKit Go.Mix Go.Eng
/-! Values, instructions, segments and stores; how they lie in memory. -/
theorem getx {α : Type} {l : List α} {i : Nat} (h : (i : Int) < (l.length : Int)) : ∃ x, l[i]? = some x := ⟨_, List.getElem?_eq_getElem (by omega)⟩
section eqs
variable {α : Type} {a b : List α} {i : Nat} {x y : α}
end eqs
theorem no_dec {q : Prop} [Decidable q] (h : ¬ q) : Value.bool false = .bool (decide q) := by rw [decide_eq_false h]
theorem yes_dec {q : Prop} [Decidable q] (h : q) : Value.bool true = .bool (decide q) := by rw [decide_eq_true h]
theorem yes_true {q : Prop} [Decidable q] (h : q) : Value.bool (decide q) = .bool true := by rw [decide_eq_true h]
theorem all_at {α : Type} {p : α → Bool} {L : List α} {i : Nat} {x : α} (h : L.all p = true) (hx : L[i]? = some x) : p x = true := List.all_eq_true.1 h x (List.mem_of_getElem? hx)
theorem any_step {α : Type} {p : α → Bool} {L : List α} {i : Nat} {l : α} (h : (L.take i).any p = false) (hl : L[i]? = some l) (hp : p l = false) : (L.take (i + 1)).any p = false := by
  rw [List.take_add_one, List.any_append, h, hl]; simp [hp]
theorem any_end {α : Type} {p : α → Bool} {L : List α} {i : Nat} (h : (L.take i).any p = false) (hi : ¬ (i : Int) < (L.length : Int)) : L.any p = false := by
  rwa [List.take_of_length_le (by omega)] at h
theorem any_yes {α : Type} {p : α → Bool} {L : List α} {i : Nat} {l : α} (hl : L[i]? = some l) (hp : p l = true) : L.any p = true := List.any_eq_true.2 ⟨l, List.mem_of_getElem? hl, hp⟩
theorem win_t {n a b : Int} (h : a ≤ n) : Value.bool (decide (n ≤ b)) = .bool (decide (a ≤ n ∧ n ≤ b)) := by congr 1; rw [decide_eq_decide]; exact ⟨fun g => ⟨h, g⟩, fun g => g.2⟩
theorem win_f {n a b : Int} (h : ¬ a ≤ n) : Value.bool false = .bool (decide (a ≤ n ∧ n ≤ b)) := no_dec fun g => h g.1
/-- lists that are looked through -/
def IdxR {α : Type} (q : α → Bool) (l : List α) (z : Int) : Prop := (z < 0 ∧ l.any q = false) ∨ ∃ (i : Nat) (x : α), z = (i : Int) ∧ l[i]? = some x ∧ q x = true ∧ (l.take i).any q = false
theorem idx_some {α : Type} {q : α → Bool} {l : List α} {i : Nat} {x : α} (hx : l[i]? = some x) (hq : q x = true) (h0 : (l.take i).any q = false) : ∃ z : Int, Value.int .i64 (i : Int) = .int .i64 z ∧ IdxR q l z := ⟨i, rfl, .inr ⟨i, x, rfl, hx, hq, h0⟩⟩
theorem idx_none {α : Type} {q : α → Bool} {l : List α} {i : Nat} (h : (l.take i).any q = false) (hi : ¬ (i : Int) < (l.length : Int)) : ∃ z : Int, Value.int .i64 (-1) = .int .i64 z ∧ IdxR q l z := ⟨-1, rfl, .inl ⟨by omega, any_end h hi⟩⟩
theorem IdxR.any {α : Type} {q : α → Bool} {l : List α} {z : Int} (h : IdxR q l z) : decide (z ≥ 0) = l.any q := by
  rcases h with ⟨h1, h2⟩ | ⟨i, x, rfl, hx, hq, _⟩
  · rw [h2]; exact decide_eq_false (by omega)
  · rw [any_yes hx hq]; exact decide_eq_true (by omega)
theorem clone_nil {α : Type} {w : World} {F : Nat → Prop} {s : Option Addr} {sz : Nat} {C : World → Nat → Nat → α → Prop} {l : List α} (hl : Sl F w s sz l C) (h : s.isNone = true) : l = [] := by
  cases l with
  | nil => rfl
  | cons x l =>
    obtain ⟨b, o, hs, _⟩ := hl 0 x rfl
    rw [hs] at h; cases h
theorem any_not {α : Type} (q : α → Bool) (l : List α) : (l.any fun v => !q v) = !l.all q := by
  induction l with
  | nil => rfl
  | cons x l ih => rw [List.any_cons, List.all_cons, ih, Bool.not_and]
section boolcmp
variable {P : Program} {N : Nat} {ρ : Nat → Value} {w : World} {d : Option Tmp} {t : TypeId} {p : String} {a : Array Edge} {g : Option (Nat × Bool)} {x y : Operand} {T Ty : TypeId} {u v : Bool}
theorem eq_bool (ht : P.underlying T = some .bool) (w : World) : (Op.equal T (.bool u) (.bool v)).run P w = .ok (decide (u = v)) w := by
  show (Op.equalIn (9999 + 1) T _ _).run P w = _
  unfold Op.equalIn
  rw [Sem.run_bind, run_underlying ht]
  cases u <;> cases v <;> simp
theorem rn_eqlB (ht : P.underlying T = some .bool) (hx : ev N ρ x = .bool u) (hy : ev N ρ y = .bool v) : Rn P N ⟨d, .binOp .eql T x y Ty, t, p, a, g⟩ ρ w (.bool (decide (u = v))) w :=
  ⟨fun _ h => (by cases h), by
    have he : (eqGuard .eql T x y (.bool u) (.bool v)).run P w = .ok () w := by unfold eqGuard; simp
    have hb : binOp .eql T (.bool u) (.bool v) = (do pure (.bool (← Op.equal T (.bool u) (.bool v)))) := by unfold binOp; rfl
    simp only [execOp, hx, hy, Sem.run_bind, he, Result.andThen_ok, hb, eq_bool ht, Sem.run_pure]⟩
theorem rn_neqB (ht : P.underlying T = some .bool) (hx : ev N ρ x = .bool u) (hy : ev N ρ y = .bool v) : Rn P N ⟨d, .binOp .neq T x y Ty, t, p, a, g⟩ ρ w (.bool (decide (u ≠ v))) w :=
  ⟨fun _ h => (by cases h), by
    have he : (eqGuard .neq T x y (.bool u) (.bool v)).run P w = .ok () w := by unfold eqGuard; simp
    have hb : binOp .neq T (.bool u) (.bool v) = (do pure (.bool (!(← Op.equal T (.bool u) (.bool v))))) := by unfold binOp; rfl
    simp only [execOp, hx, hy, Sem.run_bind, he, Result.andThen_ok, hb, eq_bool ht, Sem.run_pure]
    cases u <;> cases v <;> rfl⟩
end boolcmp
/-! ### Values, places -/
abbrev Vl := Int × Int
def vlC (v : Vl) : List Value := [.int .u8 v.1, .int .i64 v.2]
abbrev vlV (v : Vl) : Value := .agg #[.int .u8 v.1, .int .i64 v.2]
abbrev VlS (F : Nat → Prop) (w : World) (s : Option Addr) (l : List Vl) : Prop := Sl F w s 2 l (Fl vlC)
theorem vl_stab (F : Nat → Prop) : Stab F (Fl vlC) := Fl.stab F vlC
theorem int_stab (F : Nat → Prop) : Stab F (Fl intC) := Fl.stab F intC
abbrev Ds := Int × Int
def dsC (d : Ds) : List Value := [.int .i64 d.1, .int .i64 d.2]
abbrev DsS (F : Nat → Prop) (w : World) (s : Option Addr) (l : List Ds) : Prop := Sl F w s 2 l (Fl dsC)
abbrev DdS (F : Nat → Prop) (w : World) (s : Option Addr) (L : List (List Ds)) : Prop := Sl F w s 1 L (SlC F 2 (Fl dsC))
theorem ds_stab (F : Nat → Prop) : Stab F (Fl dsC) := Fl.stab F dsC
theorem dd_stab (F : Nat → Prop) : Stab F (SlC F 2 (Fl dsC)) := SlC.stab (ds_stab F)
theorem vl_one {x : Vl} {u : Value} (hu : u ∈ vlC x) : u.oneCell' = true := by
  simp only [vlC, List.mem_cons, List.not_mem_nil, or_false] at hu
  rcases hu with rfl | rfl <;> rfl
theorem ds_one {x : Ds} {u : Value} (hu : u ∈ dsC x) : u.oneCell' = true := by
  simp only [dsC, List.mem_cons, List.not_mem_nil, or_false] at hu
  rcases hu with rfl | rfl <;> rfl
/-! ### Instructions, segments, slots, stores -/
structure Ins where
  op : Int
  nm : ByteArray
  n : Int
  outs : List (List Ds)
structure Sg where
  nm : ByteArray
  ex : Nat
  st : List (List Ds)
  ins : List Ins
structure Slt where
  nm : ByteArray
  base : Nat
  size : Nat
  ex : Nat
  loop : Bool
  st : List (List Ds)
structure Sto where
  slots : List Slt
  code : List Ins
deriving instance DecidableEq for Ins
deriving instance DecidableEq for Sg
deriving instance DecidableEq for Slt
deriving instance DecidableEq for Sto
abbrev inL (x : Ins) (so : Option Addr) (co : Nat) : List Value := [.int .u8 x.op, .string x.nm, .int .i64 x.n, .slice so x.outs.length co]
abbrev sgL (x : Sg) (ss : Option Addr) (cs : Nat) (si : Option Addr) (ci : Nat) : List Value := [.string x.nm, .int .i64 (x.ex : Nat), .slice ss x.st.length cs, .slice si x.ins.length ci]
abbrev slL (x : Slt) (ss : Option Addr) (cs : Nat) : List Value := [.string x.nm, .int .i64 (x.base : Nat), .int .i64 (x.size : Nat), .int .i64 (x.ex : Nat), .bool x.loop, .slice ss x.st.length cs]
/-- these cells lie there -/
def Cs (w : World) (b off : Nat) (l : List Value) : Prop := ∀ j v, l[j]? = some v → w.cell? ⟨b, off + j, none⟩ = some v
theorem Cs.fr {w w' : World} {b off : Nat} {l : List Value} {S : Nat → Prop} (h : Cs w b off l) (hf : Fr S w w') (hS : ¬ S b) : Cs w' b off l := fun j v hv => hf.cell (p := ⟨b, _, none⟩) hS (h j v hv)
def InC (F : Nat → Prop) : World → Nat → Nat → Ins → Prop := fun w b off x => ∃ so co, Cs w b off (inL x so co) ∧ DdS F w so x.outs
theorem in_stab (F : Nat → Prop) : Stab F (InC F) := fun _ _ _ b _ _ hf hS hF ⟨so, co, h1, h2⟩ => ⟨so, co, h1.fr hf (hS b hF), h2.fr (dd_stab F) hf hS⟩
abbrev InS (F : Nat → Prop) (w : World) (s : Option Addr) (l : List Ins) : Prop := Sl F w s 4 l (InC F)
def SgC (F : Nat → Prop) : World → Nat → Nat → Sg → Prop := fun w b off x => ∃ ss cs si ci, Cs w b off (sgL x ss cs si ci) ∧ DdS F w ss x.st ∧ InS F w si x.ins ∧ x.ins.length ≤ ci
theorem sg_stab (F : Nat → Prop) : Stab F (SgC F) := fun _ _ _ b _ _ hf hS hF ⟨ss, cs, si, ci, h1, h2, h3, h4⟩ => ⟨ss, cs, si, ci, h1.fr hf (hS b hF), h2.fr (dd_stab F) hf hS, h3.fr (in_stab F) hf hS, h4⟩
abbrev SgS (F : Nat → Prop) (w : World) (s : Option Addr) (l : List Sg) : Prop := Sl F w s 4 l (SgC F)
def SoC (F : Nat → Prop) : World → Nat → Nat → Slt → Prop := fun w b off x => ∃ ss cs, Cs w b off (slL x ss cs) ∧ DdS F w ss x.st
theorem so_stab (F : Nat → Prop) : Stab F (SoC F) := fun _ _ _ b _ _ hf hS hF ⟨ss, cs, h1, h2⟩ => ⟨ss, cs, h1.fr hf (hS b hF), h2.fr (dd_stab F) hf hS⟩
abbrev SoS (F : Nat → Prop) (w : World) (s : Option Addr) (l : List Slt) : Prop := Sl F w s 6 l (SoC F)
/-- a store's two slices -/
structure StR (F : Nat → Prop) (w : World) (S : Sto) (sa : Option Addr) (ca : Nat) (sb : Option Addr) (cb : Nat) : Prop where
  slots : SoS F w sa S.slots
  code : InS F w sb S.code
  room : S.code.length ≤ cb
theorem StR.fr {F : Nat → Prop} {w w' : World} {S : Sto} {sa sb : Option Addr} {ca cb : Nat} {X : Nat → Prop} (h : StR F w S sa ca sb cb) (hf : Fr X w w') (hX : ∀ k, F k → ¬ X k) : StR F w' S sa ca sb cb := ⟨h.slots.fr (so_stab F) hf hX, h.code.fr (in_stab F) hf hX, h.room⟩
theorem StR.ext {F : Nat → Prop} {w w' : World} {S : Sto} {sa sb : Option Addr} {ca cb : Nat} (h : StR F w S sa ca sb cb) (hf : Ext w w') : StR F w' S sa ca sb cb := h.fr hf (fun _ _ hn => hn)
/-- lengths that are counted -/
def smallD (L : List (List Ds)) : Bool := decide (L.length ≤ 1000) && L.all fun l => decide (l.length ≤ 1000)
def smallI (l : List Ins) : Bool := decide (l.length ≤ 1000) && l.all fun x => smallD x.outs
def smallG (l : List Sg) : Bool := decide (l.length ≤ 1000) && l.all fun x => smallD x.st && smallI x.ins && decide (x.ex ≤ 1000)
def smallS (S : Sto) : Bool := smallI S.code && decide (S.slots.length ≤ 1000) && S.slots.all fun x => smallD x.st && decide (x.ex ≤ 1000 ∧ x.base ≤ 1000 ∧ x.size ≤ 1000)
theorem smallD_len {L : List (List Ds)} (h : smallD L = true) : L.length ≤ 1000 := of_decide_eq_true (Bool.and_eq_true_iff.1 h).1
theorem smallD_at {L : List (List Ds)} {i : Nat} {l : List Ds} (h : smallD L = true) (hl : L[i]? = some l) : l.length ≤ 1000 := by
  have h1 := all_at (Bool.and_eq_true_iff.1 h).2 hl
  exact of_decide_eq_true h1
theorem smallI_len {L : List Ins} (h : smallI L = true) : L.length ≤ 1000 := of_decide_eq_true (Bool.and_eq_true_iff.1 h).1
theorem smallI_at {L : List Ins} {i : Nat} {x : Ins} (h : smallI L = true) (hl : L[i]? = some x) : smallD x.outs = true := by
  have h1 := all_at (Bool.and_eq_true_iff.1 h).2 hl
  exact h1
theorem smallG_len {L : List Sg} (h : smallG L = true) : L.length ≤ 1000 := of_decide_eq_true (Bool.and_eq_true_iff.1 h).1
theorem smallG_at {L : List Sg} {i : Nat} {x : Sg} (h : smallG L = true) (hl : L[i]? = some x) : smallD x.st = true ∧ smallI x.ins = true ∧ x.ex ≤ 1000 := by
  have h1 := all_at (Bool.and_eq_true_iff.1 h).2 hl
  simp only [Bool.and_eq_true] at h1
  exact ⟨h1.1.1, h1.1.2, of_decide_eq_true h1.2⟩
theorem smallS_code {S : Sto} (h : smallS S = true) : smallI S.code = true := by
  unfold smallS at h; simp only [Bool.and_eq_true] at h; exact h.1.1
theorem smallS_len {S : Sto} (h : smallS S = true) : S.slots.length ≤ 1000 := by
  unfold smallS at h; simp only [Bool.and_eq_true] at h; exact of_decide_eq_true h.1.2
theorem smallS_at {S : Sto} {i : Nat} {x : Slt} (h : smallS S = true) (hl : S.slots[i]? = some x) : smallD x.st = true ∧ x.ex ≤ 1000 ∧ x.base ≤ 1000 ∧ x.size ≤ 1000 := by
  unfold smallS at h; simp only [Bool.and_eq_true] at h
  have h1 := all_at h.2 hl
  simp only [Bool.and_eq_true] at h1
  exact ⟨h1.1, of_decide_eq_true h1.2⟩
/-! ### Operations of the code -/
def isNodeB (x : Ins) : Bool := decide (x.op ≠ 21 ∧ x.op ≠ 22 ∧ x.op ≠ 23)
def isLoopB (l : List Ins) : Bool := l.any fun x => decide (x.op = 23)
/-- how many nodes come first -/
def nodesN (l : List Ins) : Nat := (l.takeWhile isNodeB).length
theorem nodesN_le (l : List Ins) : nodesN l ≤ l.length := by
  unfold nodesN
  exact (List.takeWhile_sublist isNodeB).length_le
theorem nodesN_idx : ∀ {l : List Ins} {i : Nat} {x : Ins}, l[i]? = some x → isNodeB x = false → ((l.take i).any fun z => !isNodeB z) = false → nodesN l = i
  | [], i, x, h, _, _ => by simp at h
  | a :: l, 0, x, h, hn, _ => by simp at h; subst h; unfold nodesN; simp [hn]
  | a :: l, i + 1, x, h, hn, h0 => by
    rw [List.take_succ_cons, List.any_cons, Bool.or_eq_false_iff] at h0
    have ha : isNodeB a = true := by simpa using h0.1
    have := nodesN_idx (l := l) (by simpa using h) hn h0.2
    unfold nodesN at this ⊢
    rw [List.takeWhile_cons, ha]; simp [this]
theorem nodesN_all : ∀ {l : List Ins}, (l.any fun z => !isNodeB z) = false → nodesN l = l.length
  | [], _ => rfl
  | a :: l, h => by
    rw [List.any_cons, Bool.or_eq_false_iff] at h
    have ha : isNodeB a = true := by simpa using h.1
    have := nodesN_all h.2
    unfold nodesN at this ⊢
    rw [List.takeWhile_cons, ha]; simp [this]
theorem nodes_of {l : List Ins} {z : Int} (h : IdxR (fun z => !isNodeB z) l z) : (z < 0 ∧ nodesN l = l.length) ∨ (¬ z < 0 ∧ z = (nodesN l : Int)) := by
  rcases h with ⟨h1, h2⟩ | ⟨i, x, rfl, hx, hq, h0⟩
  · exact .inl ⟨h1, nodesN_all h2⟩
  · exact .inr ⟨by omega, by rw [nodesN_idx hx (by simpa using hq) h0]⟩
section wide
variable {F F' : Nat → Prop} {w : World} {s : Option Addr} (hF : ∀ b, F b → F' b)
include hF
theorem dd_wide {L : List (List Ds)} (h : DdS F w s L) : DdS F' w s L := (h.map (fun _ _ _ _ ⟨s, c, h1, h2⟩ => ⟨s, c, h1, h2.wide hF⟩)).wide hF
theorem in_wide {l : List Ins} (h : InS F w s l) : InS F' w s l := (h.map (fun _ _ _ _ ⟨so, co, h1, h2⟩ => ⟨so, co, h1, dd_wide hF h2⟩)).wide hF
theorem sg_wide {l : List Sg} (h : SgS F w s l) : SgS F' w s l := (h.map (fun _ _ _ _ ⟨ss, cs, si, ci, h1, h2, h3, h4⟩ => ⟨ss, cs, si, ci, h1, dd_wide hF h2, in_wide hF h3, h4⟩)).wide hF
end wide

/-! Shapes, programs of segments, what instructions have. -/
abbrev Shp := ByteArray × Int × Int × Bool × Bool
abbrev shV (s : Shp) : Value := .agg #[.string s.1, .int .i64 s.2.1, .int .i64 s.2.2.1, .bool s.2.2.2.1, .bool s.2.2.2.2]
abbrev sh0 : Shp := (⟨#[]⟩, 0, 0, false, false)
def shT : List (Int × Shp) := [(1, ⟨#[105, 110, 116]⟩, 1, 1, false, true), (2, ⟨#[98, 111, 111, 108]⟩, 1, 1, false, true), (3, ⟨#[110, 105, 108]⟩, 1, 1, false, false), (4, ⟨#[112, 114, 105, 109]⟩, -1, 1, true, false), (5, ⟨#[115, 119, 105, 116, 99, 104]⟩, 2, 2, false, false), (6, ⟨#[109, 101, 114, 103, 101]⟩, 2, 1, false, false), (7, ⟨#[103, 97, 116, 101]⟩, 2, 1, false, false),
  (10, ⟨#[97, 108, 108, 111, 99]⟩, 1, 1, false, false), (11, ⟨#[115, 116, 111, 114, 101]⟩, 3, 0, false, false), (12, ⟨#[102, 101, 116, 99, 104]⟩, 2, 1, false, false), (13, ⟨#[115, 105, 122, 101]⟩, 1, 1, false, false), (14, ⟨#[105, 115, 110, 105, 108]⟩, 1, 1, false, false), (20, ⟨#[98, 101, 103, 105, 110]⟩, 1, -1, true, false), (21, ⟨#[97, 114, 103, 115]⟩, 2, 0, false, true), (22, ⟨#[114, 101, 116, 117, 114, 110]⟩, 1, 0, false, true), (23, ⟨#[97, 103, 97, 105, 110]⟩, 1, 1, false, false)]
def shL : List (Int × Value) := shT.map fun e => (e.1, shV e.2)
def shG (k : Int) : Shp := ((shT.find? fun e => decide (e.1 = k)).map (·.2)).getD sh0
def shB (k : Int) : Bool := (shT.find? fun e => decide (e.1 = k)).isSome
theorem shL_find (k : Int) : getL shL k = ((shT.find? fun e => decide (e.1 = k)).map (·.2)).map shV := by
  unfold getL shL
  rw [List.find?_map]
  simp only [Option.map_map, Function.comp_def]
theorem shL_get (k : Int) : (getL shL k).getD (shV sh0) = shV (shG k) := by
  rw [shL_find]; unfold shG
  cases (shT.find? fun e => decide (e.1 = k)).map (·.2) <;> rfl
theorem shL_some (k : Int) : (getL shL k).isSome = shB k := by
  rw [shL_find]; unfold shB
  cases shT.find? fun e => decide (e.1 = k) <;> rfl
/-! ### Operations of cells -/
def nmL : List ByteArray := [⟨#[97, 100, 100]⟩, ⟨#[115, 117, 98]⟩, ⟨#[109, 117, 108]⟩, ⟨#[100, 105, 118]⟩, ⟨#[109, 111, 100]⟩, ⟨#[110, 101, 103]⟩, ⟨#[108, 116]⟩, ⟨#[108, 101]⟩, ⟨#[101, 113]⟩, ⟨#[110, 111, 116]⟩]
def arity (k : Nat) : Nat := if k = 5 ∨ k = 9 then 1 else 2
def fidN (k : Nat) : Nat := [90, 92, 93, 94, 97, 99, 100, 102, 103, 104].getD k 0
def kindC (k : Nat) : List Int := if k = 8 then [1, 2] else if k = 9 then [2] else [1]
def kbN (bI bE bN k : Nat) : Nat := if k = 8 then bE else if k = 9 then bN else bI
def opV (bI bE bN k : Nat) : Value := .agg #[.int .i64 (arity k : Nat), .slice (some ⟨kbN bI bE bN k, 0, none⟩) (kindC k).length (kindC k).length, .func (.func (fidN k)) #[] #[]]
def opsL (bI bE bN : Nat) : List (ByteArray × Value) := (List.range 10).map fun k => (nmL.getD k ⟨#[]⟩, opV bI bE bN k)
def idS (nm : ByteArray) : Option Nat := (List.range 10).find? fun k => decide (nmL.getD k ⟨#[]⟩ = nm)
def arS (nm : ByteArray) : Nat := ((idS nm).map arity).getD 0
theorem opsL_get (bI bE bN : Nat) (nm : ByteArray) : getL (opsL bI bE bN) nm = (idS nm).map (opV bI bE bN) := by
  unfold getL opsL idS
  rw [List.find?_map]
  simp only [Option.map_map, Function.comp_def]
abbrev op0 : Value := .agg #[.int .i64 0, .slice none 0 0, .nilFunc]
theorem opsL_ar (bI bE bN : Nat) (nm : ByteArray) : ∃ sl fn, (getL (opsL bI bE bN) nm).getD op0 = .agg #[.int .i64 (arS nm : Nat), sl, fn] := by
  rw [opsL_get]; unfold arS
  cases idS nm with
  | none => exact ⟨_, _, rfl⟩
  | some k => exact ⟨_, _, rfl⟩
/-! ### Programs -/
def atL (l : List Sg) : List (ByteArray × Value) := l.zipIdx.map fun p => (p.1.nm, .int .i64 (p.2 : Nat))
def calleeOf (l : List Sg) (nm : ByteArray) : Option Sg := l.find? fun g => decide (g.nm = nm)
def callee0 (l : List Sg) (nm : ByteArray) : Sg := (calleeOf l nm).getD ⟨⟨#[]⟩, 0, [], []⟩
def nmdB (l : List Sg) (x : Ins) : Bool := (calleeOf l x.nm).isSome && (isLoopB (callee0 l x.nm).ins == decide (x.n = 1))
theorem find_zip (nm : ByteArray) : ∀ (l : List Sg) (k : Nat) (g : Sg), (l.find? fun g => decide (g.nm = nm)) = some g → ∃ n : Nat, l[n]? = some g ∧ getL ((l.zipIdx k).map fun p => (p.1.nm, (.int .i64 (p.2 : Nat) : Value))) nm = some (.int .i64 ((k + n : Nat) : Int))
  | [], _, _, h => by simp at h
  | a :: l, k, g, h => by
    rw [List.find?_cons] at h
    by_cases ha : a.nm = nm
    · rw [decide_eq_true ha] at h
      obtain rfl := Option.some.inj h
      exact ⟨0, rfl, by unfold getL; simp [ha]⟩
    · rw [decide_eq_false ha] at h
      obtain ⟨n, h1, h2⟩ := find_zip nm l (k + 1) g h
      refine ⟨n + 1, by simpa using h1, ?_⟩
      rw [List.zipIdx_cons, List.map_cons]
      unfold getL at h2 ⊢
      rw [List.find?_cons, decide_eq_false ha, h2]
      congr 3; omega
theorem callee_at {l : List Sg} {nm : ByteArray} (h : (calleeOf l nm).isSome = true) : ∃ n : Nat, l[n]? = some (callee0 l nm) ∧ getL (atL l) nm = some (.int .i64 (n : Int)) := by
  obtain ⟨g, hg⟩ := Option.isSome_iff_exists.1 h
  obtain ⟨n, h1, h2⟩ := find_zip nm l 0 g hg
  refine ⟨n, by rw [h1]; unfold callee0; rw [hg]; rfl, ?_⟩
  unfold atL; rw [h2]; congr 3; omega
def PrgO (F : Nat → Prop) (w : World) (b : Nat) (l : List Sg) : Prop :=
  ∃ sl cl ba bs, Blk w b [.slice sl l.length cl, .map (some ba), .map (some bs)] 188 ∧ MapL w ba kS (atL l) ∧ MapL w bs kU shL ∧ SgS F w sl l ∧ F b ∧ F ba ∧ F bs
theorem PrgO.fr {F S : Nat → Prop} {w w' : World} {b : Nat} {l : List Sg} (h : PrgO F w b l) (hf : Fr S w w') (hS : ∀ k, F k → ¬ S k) : PrgO F w' b l := by
  obtain ⟨sl, cl, ba, bs, h1, h2, h3, h4, h5, h6, h7⟩ := h
  exact ⟨sl, cl, ba, bs, h1.fr hf (hS b h5), h2.fr hf (hS ba h6), h3.fr hf (hS bs h7), h4.fr (sg_stab F) hf hS, h5, h6, h7⟩
theorem PrgO.ext {F : Nat → Prop} {w w' : World} {b : Nat} {l : List Sg} (h : PrgO F w b l) (hf : Ext w w') : PrgO F w' b l := h.fr hf (fun _ _ hn => hn)
/-- a segment's value, and what it reads as -/
structure GRd (F : Nat → Prop) (w : World) (g : Sg) (ss : Option Addr) (si : Option Addr) (ci : Nat) : Prop where
  st : DdS F w ss g.st
  ins : InS F w si g.ins
  room : g.ins.length ≤ ci
theorem GRd.fr {F S : Nat → Prop} {w w' : World} {g : Sg} {ss si : Option Addr} {ci : Nat} (h : GRd F w g ss si ci) (hf : Fr S w w') (hS : ∀ k, F k → ¬ S k) : GRd F w' g ss si ci := ⟨h.st.fr (dd_stab F) hf hS, h.ins.fr (in_stab F) hf hS, h.room⟩
theorem GRd.ext {F : Nat → Prop} {w w' : World} {g : Sg} {ss si : Option Addr} {ci : Nat} (h : GRd F w g ss si ci) (hf : Ext w w') : GRd F w' g ss si ci := h.fr hf (fun _ _ hn => hn)
/-! ### What instructions have -/
def insP (x : Ins) : Int := if x.op = 4 then (arS x.nm : Nat) else (shG x.op).2.1
def outP (l : List Sg) (x : Ins) : Int := if x.op = 20 then 1 + ((callee0 l x.nm).ex : Nat) else (shG x.op).2.2.1
def rightB (l : List Sg) (x : Ins) : Bool :=
  shB x.op && ((shG x.op).2.2.2.1 || decide (x.nm = ⟨#[]⟩)) &&
    (if x.op = 1 then decide (-1000000000 ≤ x.n ∧ x.n ≤ 1000000000) else if x.op = 2 then decide (0 ≤ x.n ∧ x.n ≤ 1) else if x.op = 4 then decide (x.n = 0 ∧ 0 < (arS x.nm : Int)) else if x.op = 20 then decide (0 ≤ x.n ∧ x.n ≤ 1) else decide (x.n = 0))
/-- instructions of which it is told what they begin -/
def okN (l : List Sg) (x : Ins) : Bool := decide (x.op ≠ 20) || nmdB l x
theorem okN_at {l : List Sg} {x : Ins} (h : okN l x = true) (h20 : x.op = 20) : nmdB l x = true := by
  unfold okN at h
  rw [decide_eq_false (fun g => g h20)] at h
  simpa using h
/-! ### What stands behind the nodes -/
def plC (p : Int × Int) : List Value := [.int .u8 p.1, .int .i64 p.2]
abbrev PlS (F : Nat → Prop) (w : World) (s : Option Addr) (l : List (Int × Int)) : Prop := Sl F w s 2 l (Fl plC)
theorem pl_one {x : Int × Int} {u : Value} (hu : u ∈ plC x) : u.oneCell' = true := by
  simp only [plC, List.mem_cons, List.not_mem_nil, or_false] at hu
  rcases hu with rfl | rfl <;> rfl
def argsL (n : Nat) : List (Int × Int) := (List.range (n - 1)).map fun (k : Nat) => ((21 : Int), (k : Int) + 1)
theorem argsL_at {n i : Nat} (h : i < n - 1) : (argsL n)[i]? = some (21, (i : Int) + 1) := by unfold argsL; rw [List.getElem?_map, List.getElem?_range h]; rfl
theorem argsL_len (n : Nat) : (argsL n).length = n - 1 := by unfold argsL; simp
def tailN (l : List Sg) (ns : List Ins) : List (Int × Int) := ns.flatMap fun x => if x.op = 20 then argsL (callee0 l x.nm).st.length else []
def retL (n : Nat) : List (Int × Int) := (List.range n).map fun (k : Nat) => ((22 : Int), (k : Int))
def tailL (l : List Sg) (g : Sg) : List (Int × Int) := tailN l (g.ins.take (nodesN g.ins)) ++ retL g.ex
theorem own_take {α : Type} {w : World} {e : TypeId} {sz c i : Nat} {s : Option Addr} {L : List α} {f : α → List Value} {x : α} {us : List Value} (hx : L[i]? = some x) (h : OwnS w e sz s (i + 1) c ((L.take i).flatMap f ++ us)) (hu : us = f x) :
    OwnS w e sz s (i + 1) c ((L.take (i + 1)).flatMap f) := by
  subst hu
  rw [List.take_add_one, hx, List.flatMap_append]
  simpa using h
theorem look_some {κ : Type} [DecidableEq κ] {l : List (κ × Value)} {k : κ} {u : Value} (z : Value) (h : getL l k = some u) : Value.tuple #[(getL l k).getD z, .bool (getL l k).isSome] = .tuple #[u, .bool true] := by rw [h]; rfl
theorem look_none {κ : Type} [DecidableEq κ] {l : List (κ × Value)} {k : κ} (z : Value) (h : getL l k = none) : Value.tuple #[(getL l k).getD z, .bool (getL l k).isSome] = .tuple #[z, .bool false] := by rw [h]; rfl
theorem look_sh (k : Int) : Value.tuple #[(getL shL k).getD (shV sh0), .bool (getL shL k).isSome] = .tuple #[shV (shG k), .bool (shB k)] := by rw [shL_get, shL_some]

/-! The rules of a segment's first part. -/
section strs
variable {P : Program} {N : Nat} {ρ : Nat → Value} {w : World} {d : Option Tmp} {t : TypeId} {p : String} {a : Array Edge} {g : Option (Nat × Bool)} {x y : Operand} {T Ty : TypeId} {u v : ByteArray}
theorem ba_list {u v : ByteArray} (h : u.data.toList = v.data.toList) : u = v := by
  cases u with | mk u => cases v with | mk v =>
  cases u; cases v; simp at h; subst h; rfl
theorem rn_eqlBA (hx : ev N ρ x = .string u) (hy : ev N ρ y = .string v) : Rn P N ⟨d, .binOp .eql T x y Ty, t, p, a, g⟩ ρ w (.bool (decide (u = v))) w := by
  have h := rn_eqlS (P := P) (w := w) (T := T) (Ty := Ty) (d := d) (t := t) (p := p) (a := a) (g := g) hx hy
  have e : decide (u.toList = v.toList) = decide (u = v) := by
    rw [decide_eq_decide]
    refine ⟨fun h => ?_, fun h => by rw [h]⟩
    rw [Go.Lib.toList_data, Go.Lib.toList_data] at h
    exact ba_list h
  rwa [e] at h
theorem rn_neqBA (hx : ev N ρ x = .string u) (hy : ev N ρ y = .string v) : Rn P N ⟨d, .binOp .neq T x y Ty, t, p, a, g⟩ ρ w (.bool (decide (u ≠ v))) w :=
  ⟨fun _ h => (by cases h), by
    have he : (eqGuard .neq T x y (.string u) (.string v)).run P w = .ok () w := by unfold eqGuard; simp
    have h : (binOp .neq T (.string u) (.string v)).run P w = .ok (.bool (decide (u ≠ v))) w := by
      have e : (u.toList == v.toList) = decide (u = v) := by
        by_cases h : u = v
        · subst h; simp
        · rw [decide_eq_false h]
          simp only [beq_eq_false_iff_ne, ne_eq]
          intro g
          rw [Go.Lib.toList_data, Go.Lib.toList_data] at g
          exact h (ba_list g)
      simp [binOp, Op.stringOp, e]
    simp [execOp, hx, hy, he, h]⟩
theorem rn_lenS (ht : P.underlying T = some .string) (hx : ev N ρ x = .string u) : Rn P N ⟨d, .call { callee := .builtin .len, args := #[x], argTypes := #[T] }, t, p, a, g⟩ ρ w (.int .i64 (u.size : Nat)) w :=
  ⟨fun _ h => (by cases h), by simp [execOp, resolve, hx, invoke, builtin, Builtin.len_, run_underlying ht, goInt]⟩
end strs
theorem own_src {α : Type} {w : World} {e : TypeId} {sz n c : Nat} {s : Option Addr} {L : List α} {f : α → List Value} (h : OwnS w e sz s n c (L.flatMap f)) (hn : n = L.length) (hsz : 0 < sz) (hc : ∀ x ∈ L, (f x).length = sz) (h1 : ∀ x ∈ L, ∀ u ∈ f x, u.oneCell' = true) :
    Go.Eng.Src w sz s n (L.flatMap f) := by
  subst hn
  exact (h.sl hsz rfl hc (fun _ _ => trivial) (F := fun _ => True)).src hc h1 hsz
theorem mx_args (n : Nat) : (if (n : Int) - 1 > 0 then (n : Int) - 1 else 0) = ((n - 1 : Nat) : Int) := by split <;> omega
theorem rightB_parts {l : List Sg} {x : Ins} (h : rightB l x = true) : shB x.op = true ∧ ((shG x.op).2.2.2.1 = true ∨ x.nm = ⟨#[]⟩) ∧
    (if x.op = 1 then decide (-1000000000 ≤ x.n ∧ x.n ≤ 1000000000) else if x.op = 2 then decide (0 ≤ x.n ∧ x.n ≤ 1) else if x.op = 4 then decide (x.n = 0 ∧ 0 < (arS x.nm : Int)) else if x.op = 20 then decide (0 ≤ x.n ∧ x.n ≤ 1) else decide (x.n = 0)) = true := by
  unfold rightB at h
  simp only [Bool.and_eq_true, Bool.or_eq_true, decide_eq_true_eq] at h
  refine ⟨h.1.1, h.1.2, ?_⟩
  have h2 := h.2
  split at h2 <;> (rename_i h1; simp only [h1, if_true, if_false])
  · exact h2
  · split at h2 <;> (rename_i h3; simp only [h3, if_true, if_false])
    · exact h2
    · split at h2 <;> (rename_i h4; simp only [h4, if_true, if_false])
      · exact h2
      · split at h2 <;> (rename_i h5; simp only [h5, if_true, if_false])
        · exact h2
        · exact h2
theorem look_shv (k : Int) : Value.agg #[.string (shG k).1, .int .i64 (shG k).2.1, .int .i64 (shG k).2.2.1, .bool (shG k).2.2.2.1, .bool (shG k).2.2.2.2] = (getL shL k).getD (.agg #[.string ⟨#[]⟩, .int .i64 0, .int .i64 0, .bool false, .bool false]) := (shL_get k).symm
section right
variable {x : Ins} (hcs : (if x.op = 1 then decide (-1000000000 ≤ x.n ∧ x.n ≤ 1000000000) else if x.op = 2 then decide (0 ≤ x.n ∧ x.n ≤ 1) else if x.op = 4 then decide (x.n = 0 ∧ 0 < (arS x.nm : Int)) else if x.op = 20 then decide (0 ≤ x.n ∧ x.n ≤ 1) else decide (x.n = 0)) = true)
include hcs
theorem rt_1 (h : x.op = 1) : Value.bool (decide (-1000000000 ≤ x.n ∧ x.n ≤ 1000000000)) = .bool true := by rw [if_pos h] at hcs; rw [hcs]
theorem rt_2 (h1 : ¬ x.op = 1) (h : x.op = 2) : Value.bool (decide (0 ≤ x.n ∧ x.n ≤ 1)) = .bool true := by rw [if_neg h1, if_pos h] at hcs; rw [hcs]
theorem rt_4 (h1 : ¬ x.op = 1) (h2 : ¬ x.op = 2) (h : x.op = 4) : x.n = 0 ∧ 0 < (arS x.nm : Int) := by rw [if_neg h1, if_neg h2, if_pos h] at hcs; exact of_decide_eq_true hcs
theorem rt_20 (h1 : ¬ x.op = 1) (h2 : ¬ x.op = 2) (h4 : ¬ x.op = 4) (h : x.op = 20) : Value.bool (decide (0 ≤ x.n ∧ x.n ≤ 1)) = .bool true := by rw [if_neg h1, if_neg h2, if_neg h4, if_pos h] at hcs; rw [hcs]
theorem rt_0 (h1 : ¬ x.op = 1) (h2 : ¬ x.op = 2) (h4 : ¬ x.op = 4) (h : ¬ x.op = 20) : Value.bool (decide (x.n = 0)) = .bool true := by rw [if_neg h1, if_neg h2, if_neg h4, if_neg h] at hcs; rw [hcs]
end right
section ports
variable {l : List Sg} {x : Ins}
theorem pt_4 (h : x.op = 4) : Value.tuple #[.int .i64 (arS x.nm : Nat), .int .i64 (shG x.op).2.2.1] = .tuple #[.int .i64 (insP x), .int .i64 (outP l x)] := by
  unfold insP outP; rw [if_pos h, if_neg (by omega)]
theorem pt_20 (h4 : ¬ x.op = 4) (h : x.op = 20) : Value.tuple #[.int .i64 (shG x.op).2.1, .int .i64 (1 + ((callee0 l x.nm).ex : Nat))] = .tuple #[.int .i64 (insP x), .int .i64 (outP l x)] := by
  unfold insP outP; rw [if_neg h4, if_pos h]
theorem pt_0 (h4 : ¬ x.op = 4) (h : ¬ x.op = 20) : Value.tuple #[.int .i64 (shG x.op).2.1, .int .i64 (shG x.op).2.2.1] = .tuple #[.int .i64 (insP x), .int .i64 (outP l x)] := by
  unfold insP outP; rw [if_neg h4, if_neg h]
end ports
/-- the tail is what must stand there -/
def eqTail (a : List Ins) (b : List (Int × Int)) : Bool := decide (a.map (fun x => (x.op, x.n)) = b) && a.all fun x => decide (x.nm = ⟨#[]⟩)
theorem eqTail_len {a : List Ins} {b : List (Int × Int)} (h : eqTail a b = true) : a.length = b.length := by
  have := of_decide_eq_true (Bool.and_eq_true_iff.1 h).1
  rw [← this, List.length_map]
theorem eqTail_at {a : List Ins} {b : List (Int × Int)} {i : Nat} {x : Ins} (h : eqTail a b = true) (hx : a[i]? = some x) : b[i]? = some (x.op, x.n) ∧ x.nm = ⟨#[]⟩ := by
  have h1 := of_decide_eq_true (Bool.and_eq_true_iff.1 h).1
  have h2 := all_at (Bool.and_eq_true_iff.1 h).2 hx
  refine ⟨by rw [← h1, List.getElem?_map, hx]; rfl, of_decide_eq_true h2⟩
theorem tailN_step {l : List Sg} {ns : List Ins} {i : Nat} {x : Ins} (hx : ns[i]? = some x) : tailN l (ns.take (i + 1)) = tailN l (ns.take i) ++ if x.op = 20 then argsL (callee0 l x.nm).st.length else [] := by
  unfold tailN; rw [List.take_add_one, hx, List.flatMap_append]; simp
theorem retL_at {n i : Nat} (h : i < n) : (retL n)[i]? = some (22, (i : Int)) := by unfold retL; rw [List.getElem?_map, List.getElem?_range h]; rfl
theorem retL_len (n : Nat) : (retL n).length = n := by unfold retL; simp
/-- names -/
def nameB (nm : ByteArray) : Bool := decide (1 ≤ nm.size ∧ nm.size ≤ 24) && (match nm[0]? with | some c => decide (97 ≤ c.toNat ∧ c.toNat ≤ 122) | none => false) && decide (Go.Lib.trimS nm.data.toList [46, 48, 49, 50, 51, 52, 53, 54, 55, 56, 57, 97, 98, 99, 100, 101, 102, 103, 104, 105, 106, 107, 108, 109, 110, 111, 112, 113, 114, 115, 116, 117, 118, 119, 120, 121, 122] = [])
theorem nameB_parts {nm : ByteArray} (h : nameB nm = true) : (1 ≤ nm.size ∧ nm.size ≤ 24) ∧ (∃ c : UInt8, nm[0]? = some c ∧ 97 ≤ c.toNat ∧ c.toNat ≤ 122) ∧ Go.Lib.trimS nm.data.toList [46, 48, 49, 50, 51, 52, 53, 54, 55, 56, 57, 97, 98, 99, 100, 101, 102, 103, 104, 105, 106, 107, 108, 109, 110, 111, 112, 113, 114, 115, 116, 117, 118, 119, 120, 121, 122] = [] := by
  unfold nameB at h
  simp only [Bool.and_eq_true, decide_eq_true_eq] at h
  refine ⟨h.1.1, ?_, h.2⟩
  have h2 := h.1.2
  split at h2
  · rename_i c hc; exact ⟨c, hc, of_decide_eq_true h2⟩
  · cases h2

/-! Where values go; what is wired. -/
theorem drop_at {α : Type} {l : List α} {i : Nat} {x : α} (h : l[i]? = some x) : l.drop i = x :: l.drop (i + 1) := by
  obtain ⟨hi, rfl⟩ := List.getElem?_eq_some_iff.1 h
  exact List.drop_eq_getElem_cons hi
theorem drop_end {α : Type} {l : List α} {i : Nat} (h : ¬ (i : Int) < (l.length : Int)) : l.drop i = [] := List.drop_eq_nil_of_le (by omega)
abbrev Go1 := (Int × Int) × List Ds
def goesS : List (List Ds) → Nat → List Go1
  | [], _ => []
  | d :: l, n => (((-1 : Int), (n : Int)), d) :: goesS l (n + 1)
def goesO (at_ : Nat) : List (List Ds) → Nat → List Go1
  | [], _ => []
  | d :: l, n => (((at_ : Int), (n : Int)), d) :: goesO at_ l (n + 1)
def goesI : List Ins → Nat → List Go1
  | [], _ => []
  | x :: l, n => goesO n x.outs 0 ++ goesI l (n + 1)
def goesL (g : Sg) : List Go1 := goesS g.st 0 ++ goesI g.ins 0
def firstsL (at_ many : Nat) : List Ds := (List.range many).map fun (k : Nat) => (((at_ + k : Nat) : Int), (0 : Int))
theorem firstsL_at {a n i : Nat} (h : i < n) : (firstsL a n)[i]? = some (((a + i : Nat) : Int), 0) := by unfold firstsL; rw [List.getElem?_map, List.getElem?_range h]; rfl
theorem firstsL_len (a n : Nat) : (firstsL a n).length = n := by unfold firstsL; simp
abbrev Ow1 := Nat × List Ds
def ownI (l : List Sg) : List Ins → Nat → Nat → List Ow1
  | [], _, _ => []
  | x :: r, n, nx => if x.op = 20 then (n, firstsL nx ((callee0 l x.nm).st.length - 1)) :: ownI l r (n + 1) (nx + ((callee0 l x.nm).st.length - 1)) else ownI l r (n + 1) nx
def lessD (a b : Ds) : Bool := if a.1 = b.1 then decide (a.2 < b.2) else decide (a.1 < b.1)
def insAt (g : Sg) (d : Ds) : Ins := (g.ins[d.1.toNat]?).getD ⟨0, ⟨#[]⟩, 0, []⟩
abbrev Acc := List (Ds × Value)
/-- a place may stand there -/
def goodD (g : Sg) (f : Int × Int) (prev : Option Ds) (d : Ds) (acc : Acc) : Bool :=
  decide (-1 ≤ f.1 ∧ f.1 + 1 ≤ d.1 ∧ d.1 ≤ (g.ins.length : Int) - 1) && (match prev with | none => true | some p => decide (0 ≤ p.1 ∧ p.1 ≤ 100000 ∧ 0 ≤ p.2 ∧ p.2 ≤ 100000) && lessD p d) && (getL acc d).isNone && decide (0 ≤ d.1 ∧ d.1 ≤ 100000 ∧ 0 ≤ d.2 ∧ d.2 ≤ insP (insAt g d) - 1 ∧ d.2 ≤ 100000)
def scanD (g : Sg) (f : Int × Int) : List Ds → Option Ds → Acc → Option Acc
  | [], _, acc => some acc
  | d :: r, prev, acc => if goodD g f prev d acc = true then scanD g f r (some d) (acc ++ [(d, kD f)]) else none
def scanG (g : Sg) : List Go1 → Acc → Option Acc
  | [], acc => some acc
  | x :: r, acc => match scanD g x.1 x.2 none acc with
    | none => none
    | some a => scanG g r a
theorem scanG_cons {g : Sg} {x : Go1} {r : List Go1} {acc fin : Acc} (h : scanG g (x :: r) acc = some fin) : ∃ a, scanD g x.1 x.2 none acc = some a ∧ scanG g r a = some fin := by
  unfold scanG at h
  split at h
  · cases h
  · rename_i a ha; exact ⟨a, ha, h⟩
theorem scanD_cons {g : Sg} {f : Int × Int} {d : Ds} {r : List Ds} {prev : Option Ds} {acc fin : Acc} (h : scanD g f (d :: r) prev acc = some fin) : goodD g f prev d acc = true ∧ scanD g f r (some d) (acc ++ [(d, kD f)]) = some fin := by
  unfold scanD at h
  split at h
  · rename_i hg; exact ⟨hg, h⟩
  · cases h
/-- the place before the i-th -/
def prevD (l : List Ds) (i : Nat) : Option Ds := if i = 0 then none else l[i - 1]?
theorem prevD_step {l : List Ds} {i : Nat} {d : Ds} (h : l[i]? = some d) : prevD l (i + 1) = some d := by unfold prevD; rw [if_neg (by omega)]; exact h
structure GoodD (g : Sg) (f : Int × Int) (prev : Option Ds) (d : Ds) (acc : Acc) (x : Ins) : Prop where
  from_ : -1 ≤ f.1
  lo : f.1 + 1 ≤ d.1
  hi : d.1 ≤ (g.ins.length : Int) - 1
  pos : 0 ≤ d.1 ∧ d.1 ≤ 100000 ∧ 0 ≤ d.2 ∧ d.2 ≤ 100000
  new : getL acc d = none
  port : d.2 ≤ insP x - 1
  at_ : g.ins[d.1.toNat]? = some x
  prev : ∀ p, prev = some p → (0 ≤ p.1 ∧ p.1 ≤ 100000 ∧ 0 ≤ p.2 ∧ p.2 ≤ 100000) ∧ lessD p d = true
theorem goodD_parts {g : Sg} {f : Int × Int} {prev : Option Ds} {d : Ds} {acc : Acc} (h : goodD g f prev d acc = true) : ∃ x, GoodD g f prev d acc x := by
  unfold goodD at h
  simp only [Bool.and_eq_true, decide_eq_true_eq, Option.isNone_iff_eq_none] at h
  obtain ⟨⟨⟨⟨h0, h1, h2⟩, h3⟩, h4⟩, h5⟩ := h
  obtain ⟨x, hx⟩ : ∃ x, g.ins[d.1.toNat]? = some x := ⟨_, List.getElem?_eq_getElem (by omega)⟩
  refine ⟨x, h0, h1, h2, ⟨h5.1, h5.2.1, h5.2.2.1, h5.2.2.2.2⟩, h4, ?_, hx, ?_⟩
  · have := h5.2.2.2.1
    unfold insAt at this
    rw [hx] at this; exact this
  · intro p hp
    subst hp
    simp only [Bool.and_eq_true, decide_eq_true_eq] at h3
    exact h3
def befV (a b : Ds) : Int := if a.1 ≠ b.1 then a.1 - b.1 else a.2 - b.2
theorem befV_less {a b : Ds} (h : lessD a b = true) : ¬ befV a b ≥ 0 := by
  unfold lessD at h
  unfold befV
  by_cases e : a.1 = b.1
  · rw [if_pos e] at h; rw [if_neg (fun g => g e)]
    have := of_decide_eq_true h; omega
  · rw [if_neg e] at h; rw [if_pos e]
    have := of_decide_eq_true h; omega
def sumP : List Ins → Int
  | [] => 0
  | x :: l => insP x + sumP l
theorem sumP_app (a b : List Ins) : sumP (a ++ b) = sumP a + sumP b := by
  induction a with
  | nil => simp [sumP]
  | cons x a ih => rw [List.cons_append, sumP, sumP, ih]; omega
theorem sumP_step {l : List Ins} {i : Nat} {x : Ins} (h : l[i]? = some x) : sumP (l.take (i + 1)) = sumP (l.take i) + insP x := by
  rw [List.take_add_one, h, sumP_app]; simp [sumP]
def insB (l : List Ins) : Bool := l.all fun x => decide (0 ≤ insP x ∧ insP x ≤ 100)
theorem sumP_bd {l : List Ins} (h : insB l = true) (i : Nat) : 0 ≤ sumP (l.take i) ∧ sumP (l.take i) ≤ 100 * i := by
  induction i with
  | zero => simp [sumP]
  | succ i ih =>
    cases hx : l[i]? with
    | none => rw [List.take_of_length_le (by have := List.getElem?_eq_none_iff.1 hx; omega)]; rw [List.take_of_length_le (by have := List.getElem?_eq_none_iff.1 hx; omega)] at ih; omega
    | some x =>
      rw [sumP_step hx]
      have h1 := all_at h hx
      have := of_decide_eq_true h1
      omega
/-- the last two rules -/
def wiredB (l : List Sg) (g : Sg) : Bool :=
  (match scanG g (goesL g) [] with | none => false | some a => decide ((a.length : Int) = sumP g.ins)) && insB g.ins &&
    (ownI l g.ins 0 (nodesN g.ins)).all fun o => match g.ins[o.1]? with | none => false | some x => decide (x.outs[0]? = some o.2)
theorem wiredB_parts {l : List Sg} {g : Sg} (h : wiredB l g = true) : (∃ fin, scanG g (goesL g) [] = some fin ∧ (fin.length : Int) = sumP g.ins) ∧ insB g.ins = true ∧ ((ownI l g.ins 0 (nodesN g.ins)).all fun o => match g.ins[o.1]? with | none => false | some x => decide (x.outs[0]? = some o.2)) = true := by
  unfold wiredB at h
  simp only [Bool.and_eq_true] at h
  refine ⟨?_, h.1.2, h.2⟩
  have h1 := h.1.1
  split at h1
  · cases h1
  · rename_i a ha; exact ⟨a, ha, of_decide_eq_true h1⟩
/-- the first two -/
def shapedB (l : List Sg) (g : Sg) : Bool :=
  nameB g.nm && decide (1 ≤ g.st.length ∧ g.st.length ≤ 12) && decide (g.ex ≤ 12) && (g.ins.take (nodesN g.ins)).all (rightB l) && eqTail (g.ins.drop (nodesN g.ins)) (tailL l g) && g.ins.all (okN l) && !isLoopB g.ins && g.ins.all fun x => decide ((x.outs.length : Int) = outP l x)
structure Shaped (l : List Sg) (g : Sg) : Prop where
  name : nameB g.nm = true
  st : 1 ≤ g.st.length ∧ g.st.length ≤ 12
  ex : g.ex ≤ 12
  right : (g.ins.take (nodesN g.ins)).all (rightB l) = true
  tail : eqTail (g.ins.drop (nodesN g.ins)) (tailL l g) = true
  ok : g.ins.all (okN l) = true
  loop : isLoopB g.ins = false
  outs : (g.ins.all fun x => decide ((x.outs.length : Int) = outP l x)) = true
theorem shapedB_parts {l : List Sg} {g : Sg} (h : shapedB l g = true) : Shaped l g := by
  unfold shapedB at h
  simp only [Bool.and_eq_true, decide_eq_true_eq, Bool.not_eq_true'] at h
  obtain ⟨⟨⟨⟨⟨⟨⟨h1, h2⟩, h3⟩, h4⟩, h5⟩, h6⟩, h7⟩, h8⟩ := h
  exact ⟨h1, h2, h3, h4, h5, h6, h7, h8⟩
theorem all_take {α : Type} {p : α → Bool} {l : List α} (h : l.all p = true) (n : Nat) : (l.take n).all p = true := List.all_eq_true.2 fun x hx => List.all_eq_true.1 h x (List.mem_of_mem_take hx)
theorem tailN_bd {l : List Sg} (hsm : smallG l = true) : ∀ {ns : List Ins}, ns.all (okN l) = true → ∀ i, (tailN l (ns.take i)).length ≤ 1000 * i := by
  intro ns hok i
  induction i with
  | zero => simp [tailN]
  | succ i ih =>
    cases hx : ns[i]? with
    | none => rw [List.take_of_length_le (by have := List.getElem?_eq_none_iff.1 hx; omega)]; rw [List.take_of_length_le (by have := List.getElem?_eq_none_iff.1 hx; omega)] at ih; omega
    | some x =>
      rw [tailN_step hx, List.length_append]
      have : (if x.op = 20 then argsL (callee0 l x.nm).st.length else []).length ≤ 1000 := by
        split
        · rename_i h20
          have hokN := okN_at (all_at hok hx) h20
          have hcS := smallG_at hsm (callee_at (Bool.and_eq_true_iff.1 hokN).1).choose_spec.1
          have := smallD_len hcS.1
          rw [argsL_len]; omega
        · simp
      omega
theorem tl_slot {l : List Sg} {ns : List Ins} {i : Nat} {more : List (Int × Int)} {v : Value} {s : Option Addr} {c : Nat} (h : tailN l (ns.take (i + 1)) = tailN l (ns.take i) ++ more) (hv : v = .slice s ((tailN l (ns.take i)).length + more.length) c) : v = .slice s (tailN l (ns.take (i + 1))).length c := by
  rw [hv, h, List.length_append]
theorem tl_own {l : List Sg} {ns : List Ins} {i c : Nat} {more : List (Int × Int)} {s : Option Addr} {w : World} (h : tailN l (ns.take (i + 1)) = tailN l (ns.take i) ++ more) (ho : OwnS w 209 2 s ((tailN l (ns.take i)).length + more.length) c ((tailN l (ns.take i)).flatMap plC ++ more.flatMap plC)) :
    OwnS w 209 2 s (tailN l (ns.take (i + 1))).length c ((tailN l (ns.take (i + 1))).flatMap plC) := by
  rw [h, List.length_append, List.flatMap_append]; exact ho
theorem tl_end {l : List Sg} {g : Sg} {i : Nat} (hl : (g.ins.take (nodesN g.ins)).length = nodesN g.ins) (hi : i ≤ nodesN g.ins) (hlt : ¬ (i : Int) < ((nodesN g.ins : Nat) : Int)) : tailN l ((g.ins.take (nodesN g.ins)).take i) = tailN l (g.ins.take (nodesN g.ins)) := by
  rw [List.take_of_length_le (l := g.ins.take (nodesN g.ins)) (by omega)]
theorem rl_own {w : World} {s : Option Addr} {n j c k : Nat} {A : List (Int × Int)} (hj : j < n) (h : OwnS w 209 2 s (k + j + 1) c ((A ++ (retL n).take j).flatMap plC ++ [.int .u8 22, .int .i64 (j : Nat)])) : OwnS w 209 2 s (k + (j + 1)) c ((A ++ (retL n).take (j + 1)).flatMap plC) := by
  rw [List.take_add_one, retL_at hj, ← List.append_assoc, List.flatMap_append]
  simpa [plC, Nat.add_assoc] using h
theorem tailL_len (l : List Sg) (g : Sg) : (tailL l g).length = (tailN l (g.ins.take (nodesN g.ins))).length + g.ex := by unfold tailL; rw [List.length_append, retL_len]
theorem tl_fin {l : List Sg} {g : Sg} {w : World} {s : Option Addr} {c n : Nat} (h : OwnS w 209 2 s n c (((tailN l (g.ins.take (nodesN g.ins))) ++ (retL g.ex).take g.ex).flatMap plC)) : OwnS w 209 2 s n c ((tailL l g).flatMap plC) := by
  unfold tailL
  rwa [List.take_of_length_le (l := retL g.ex) (by rw [retL_len]; omega)] at h

/-- what is read in old blocks -/
theorem Sl.old {α : Type} {F : Nat → Prop} {w0 a b : World} {s : Option Addr} {sz : Nat} {l : List α} {C : World → Nat → Nat → α → Prop} (h : Sl F a s sz l C) (hC : Stab F C) (ha : Fr no w0 a) (hb : Fr no w0 b) (hs : a.heap.size ≤ b.heap.size) (hF : ∀ k, F k → k < w0.heap.size) : Sl F b s sz l C :=
  h.fr hC (Fr.between ha hb hs) (fun k hk hn => by
    have h1 := hF k hk
    rcases hn with h | h
    · exact h
    · omega)
theorem Fr.nF {F : Nat → Prop} {w0 a b : World} (ha : Fr no w0 a) (hb : Fr no w0 b) (hs : a.heap.size ≤ b.heap.size) (hF : ∀ k, F k → k < w0.heap.size) : Fr (fun k => ¬ F k) a b :=
  (Fr.between ha hb hs).mono (fun k _ hn hk => by
    have h1 := hF k hk
    rcases hn with h | h
    · exact h
    · omega)
theorem nn {F : Nat → Prop} : ∀ k, F k → ¬ ¬ F k := fun _ h n => n h
theorem not23 {l : List Ins} {i : Nat} {x : Ins} (h : isLoopB l = false) (hx : l[i]? = some x) : ¬ x.op = 23 := fun e => by
  unfold isLoopB at h
  rw [List.any_eq_false] at h
  exact h x (List.mem_of_getElem? hx) (decide_eq_true e)
theorem ownI_20 {l : List Sg} {x : Ins} {r : List Ins} {n nx : Nat} (h : x.op = 20) : ownI l (x :: r) n nx = (n, firstsL nx ((callee0 l x.nm).st.length - 1)) :: ownI l r (n + 1) (nx + ((callee0 l x.nm).st.length - 1)) := by rw [ownI, if_pos h]
theorem ownI_no {l : List Sg} {x : Ins} {r : List Ins} {n nx : Nat} (h : ¬ x.op = 20) : ownI l (x :: r) n nx = ownI l r (n + 1) nx := by rw [ownI, if_neg h]
theorem own_cons {g : Sg} {x : Ow1} {r : List Ow1} (h : ((x :: r).all fun o => match g.ins[o.1]? with | none => false | some x => decide (x.outs[0]? = some o.2)) = true) : ∃ z, g.ins[x.1]? = some z ∧ z.outs[0]? = some x.2 ∧ (r.all fun o => match g.ins[o.1]? with | none => false | some x => decide (x.outs[0]? = some o.2)) = true := by
  rw [List.all_cons, Bool.and_eq_true] at h
  obtain ⟨h1, h2⟩ := h
  split at h1
  · cases h1
  · rename_i z hz; exact ⟨z, hz, of_decide_eq_true h1, h2⟩
theorem insB_at {l : List Ins} {i : Nat} {x : Ins} (h : insB l = true) (hx : l[i]? = some x) : 0 ≤ insP x ∧ insP x ≤ 100 := by
  have h1 := all_at h hx
  exact of_decide_eq_true h1
theorem prev_ex {l : List Ds} {j : Nat} (hj : j < l.length) : ∃ q : Ds, 0 < j → l[j - 1]? = some q := by
  by_cases h : 0 < j
  · exact ⟨_, fun _ => List.getElem?_eq_getElem (show j - 1 < l.length by omega)⟩
  · exact ⟨(0, 0), fun g => absurd g h⟩

/-! A list of segments is right. -/
def distB (l : List Sg) : Bool := decide ((l.map (·.nm)).Nodup)
theorem atL_len (l : List Sg) : (atL l).length = l.length := by unfold atL; simp
theorem atL_at {l : List Sg} {i : Nat} {g : Sg} (h : l[i]? = some g) : (atL l)[i]? = some (g.nm, .int .i64 (i : Nat)) := by
  unfold atL
  rw [List.getElem?_map, List.getElem?_zipIdx, h]
  simp
theorem getL_none {κ : Type} [DecidableEq κ] {l : List (κ × Value)} {k : κ} (h : ∀ p ∈ l, p.1 ≠ k) : getL l k = none := by
  unfold getL
  rw [List.find?_eq_none.2 (fun p hp => by simpa using h p hp)]; rfl
theorem atL_new {l : List Sg} {i : Nat} {g : Sg} (hd : distB l = true) (h : l[i]? = some g) : getL ((atL l).take i) g.nm = none := by
  refine getL_none (fun p hp e => ?_)
  obtain ⟨j, hj⟩ := List.mem_iff_getElem?.1 hp
  have hji : j < i := by
    have := (List.getElem?_eq_some_iff.1 hj).1
    rw [List.length_take] at this; omega
  rw [List.getElem?_take_of_lt hji] at hj
  have hjl : j < l.length := by have := (List.getElem?_eq_some_iff.1 hj).1; rwa [atL_len] at this
  obtain ⟨g', hg'⟩ : ∃ g', l[j]? = some g' := ⟨_, List.getElem?_eq_getElem hjl⟩
  rw [atL_at hg'] at hj
  obtain rfl := Option.some.inj hj
  have hn : (l.map (·.nm)).Nodup := of_decide_eq_true hd
  have h1 : (l.map (·.nm))[j]? = some g.nm := by rw [List.getElem?_map, hg']; exact congrArg some e
  have h2 : (l.map (·.nm))[i]? = some g.nm := by rw [List.getElem?_map, h]; rfl
  have := (List.getElem?_eq_some_iff.1 h1)
  have h3 := (List.getElem?_eq_some_iff.1 h2)
  exact (List.pairwise_iff_getElem.1 hn) j i this.1 h3.1 hji (by rw [this.2, h3.2])
theorem atL_step {l : List Sg} {i : Nat} {g : Sg} (h : l[i]? = some g) : (atL l).take i ++ [(g.nm, (.int .i64 (i : Nat) : Value))] = (atL l).take (i + 1) := by
  rw [List.take_add_one, atL_at h]; rfl
theorem mapL_step {w : World} {b : Nat} {l : List Sg} {i : Nat} {g : Sg} (h : l[i]? = some g) (hm : MapL w b kS ((atL l).take i ++ [(g.nm, (.int .i64 (i : Nat) : Value))])) : MapL w b kS ((atL l).take (i + 1)) := by rwa [atL_step h] at hm
theorem mapL_all {w : World} {b : Nat} {l : List Sg} {i : Nat} (hi : ¬ (i : Int) < (l.length : Int)) (hm : MapL w b kS ((atL l).take i)) : MapL w b kS (atL l) := by rwa [List.take_of_length_le (by rw [atL_len]; omega)] at hm
/-- how many nodes -/
def cntI (l : List Ins) : Nat := (l.filter isNodeB).length
def cntG : List Sg → Nat
  | [] => 0
  | g :: l => cntI g.ins + cntG l
theorem cntG_app (a b : List Sg) : cntG (a ++ b) = cntG a + cntG b := by
  induction a with
  | nil => simp [cntG]
  | cons x a ih => rw [List.cons_append, cntG, cntG, ih]; omega
theorem cntG_step {l : List Sg} {i : Nat} {g : Sg} (h : l[i]? = some g) : cntG (l.take (i + 1)) = cntG (l.take i) + cntI g.ins := by
  rw [List.take_add_one, h, cntG_app]; simp [cntG]
theorem cntI_step {l : List Ins} {i : Nat} {x : Ins} (h : l[i]? = some x) : cntI (l.take (i + 1)) = cntI (l.take i) + if isNodeB x = true then 1 else 0 := by
  unfold cntI
  rw [List.take_add_one, h, List.filter_append, List.length_append]
  by_cases hx : isNodeB x = true <;> simp [hx]
theorem cntI_le (l : List Ins) (i : Nat) : cntI (l.take i) ≤ i := by
  unfold cntI
  exact Nat.le_trans (List.length_filter_le ..) (by rw [List.length_take]; omega)
theorem cntG_bd {l : List Sg} (h : smallG l = true) (i : Nat) : cntG (l.take i) ≤ 1000 * i := by
  induction i with
  | zero => simp [cntG]
  | succ i ih =>
    cases hx : l[i]? with
    | none => rw [List.take_of_length_le (by have := List.getElem?_eq_none_iff.1 hx; omega)]; rw [List.take_of_length_le (by have := List.getElem?_eq_none_iff.1 hx; omega)] at ih; omega
    | some g =>
      rw [cntG_step hx]
      have h1 := smallI_len (smallG_at h hx).2.1
      have h2 := cntI_le g.ins g.ins.length
      rw [List.take_length] at h2
      omega
def segB (l : List Sg) (g : Sg) : Bool := shapedB l g && wiredB l g
structure ChkG (l : List Sg) : Prop where
  sm : smallG l = true
  dist : distB l = true
  cnt : cntG l ≤ 400 ∧ l.length ≤ 60
  segs : l.all (segB l) = true
  st1 : ∀ x ∈ l, 1 ≤ x.st.length
  main : (calleeOf l ⟨#[109, 97, 105, 110]⟩).isSome = true ∧ isLoopB (callee0 l ⟨#[109, 97, 105, 110]⟩).ins = false
def chkB (l : List Sg) : Bool := smallG l && distB l && decide (cntG l ≤ 400 ∧ l.length ≤ 60) && l.all (segB l) && (l.all fun x => decide (1 ≤ x.st.length)) && (calleeOf l ⟨#[109, 97, 105, 110]⟩).isSome && !isLoopB (callee0 l ⟨#[109, 97, 105, 110]⟩).ins
theorem chkB_parts {l : List Sg} (h : chkB l = true) : ChkG l := by
  unfold chkB at h
  simp only [Bool.and_eq_true, decide_eq_true_eq, Bool.not_eq_true'] at h
  obtain ⟨⟨⟨⟨⟨⟨h1, h2⟩, h3⟩, h4⟩, h5⟩, h6⟩, h7⟩ := h
  exact ⟨h1, h2, h3, h4, fun x hx => of_decide_eq_true (List.all_eq_true.1 h5 x hx), h6, h7⟩
/-- old blocks, and those between -/
def With (F : Nat → Prop) (lo hi : Nat) : Nat → Prop := fun k => F k ∨ Iv lo hi k
theorem cnt_end {l : List Ins} {j : Nat} (h : ¬ (j : Int) < (l.length : Int)) (hj : j ≤ l.length) : j = l.length := by omega
theorem smallG_mem {l : List Sg} {g : Sg} (h : smallG l = true) (hg : g ∈ l) : smallD g.st = true ∧ smallI g.ins = true ∧ g.ex ≤ 1000 := by
  obtain ⟨i, hi⟩ := List.mem_iff_getElem?.1 hg
  exact smallG_at h hi

/-! Places that are moved. Things that are held: cells whose parts lie in blocks of a set. -/
def zn : Option Addr := none
abbrev zz (_ : Option Addr) (Z : Nat → Prop) (k : Nat) : Prop := Z k
theorem zz_nil {q : Prop} {k : Nat} (h : zz none (fun _ => False) k) : q := False.elim h
def shD (z : Int) (d : Ds) : Ds := (d.1 + z, d.2)
def mvL (z : Int) (L : List (List Ds)) : List (List Ds) := L.map fun l => l.map (shD z)
def halfS (z : Int) (l : List Ds) (j : Nat) : List Ds := (l.take j).map (shD z) ++ l.drop j
theorem mvL_len (z : Int) (L : List (List Ds)) : (mvL z L).length = L.length := List.length_map _
theorem halfS_len (z : Int) (l : List Ds) (j : Nat) : (halfS z l j).length = l.length := by unfold halfS; simp; omega
theorem halfS_at {z : Int} {l : List Ds} {j : Nat} {d : Ds} (h : l[j]? = some d) : (halfS z l j)[j]? = some d := by
  have hj := (List.getElem?_eq_some_iff.1 h).1
  unfold halfS
  rw [List.getElem?_append_right (by simp; omega)]
  simp only [List.length_map, List.length_take, List.getElem?_drop]
  rw [show j + (j - min j l.length) = j by omega]; exact h
theorem halfS_on {z : Int} {l : List Ds} {j : Nat} {d : Ds} (h : l[j]? = some d) : halfS z l (j + 1) = (halfS z l j).set j (d.1 + z, d.2) := by
  have hj := (List.getElem?_eq_some_iff.1 h).1
  have hl : ((l.take j).map (shD z)).length = j := by simp; omega
  unfold halfS
  rw [List.take_add_one, h, drop_at h]
  have e : ((l.take j).map (shD z) ++ d :: l.drop (j + 1)).set j (d.1 + z, d.2) = (l.take j).map (shD z) ++ (d :: l.drop (j + 1)).set (j - ((l.take j).map (shD z)).length) (d.1 + z, d.2) := List.set_append_right _ _ (by omega)
  rw [e, hl, Nat.sub_self]
  simp [shD]
theorem halfS_end {z : Int} {l : List Ds} {j : Nat} (h : ¬ (j : Int) < (l.length : Int)) : halfS z l j = l.map (shD z) := by
  unfold halfS
  rw [List.take_of_length_le (by omega), List.drop_eq_nil_of_le (by omega), List.append_nil]
theorem ds_set0 {v : Ds} {z : Int} : ∀ {l : List Ds} {i : Nat}, l[i]? = some v → (l.flatMap dsC).take (i * 2 + 0) ++ [.int .i64 z] ++ (l.flatMap dsC).drop (i * 2 + 0 + 1) = (l.set i (z, v.2)).flatMap dsC
  | [], i, h => by simp at h
  | x :: l, 0, h => by
    simp at h; subst h
    simp [dsC]
  | x :: l, i + 1, h => by
    have ih := ds_set0 (z := z) (l := l) (i := i) (by simpa using h)
    rw [List.set_cons_succ, List.flatMap_cons, List.flatMap_cons, ← ih]
    have e : (i + 1) * 2 + 0 = (i * 2 + 0) + 2 := by omega
    rw [e]
    simp [dsC]
/-- places that can be moved -/
def bdL (l : List Ds) : Bool := l.all fun d => decide (-100000 ≤ d.1 ∧ d.1 ≤ 100000)
def bdD (L : List (List Ds)) : Bool := L.all bdL
theorem bdL_at {l : List Ds} {j : Nat} {d : Ds} (h : bdL l = true) (hd : l[j]? = some d) : -100000 ≤ d.1 ∧ d.1 ≤ 100000 := by
  have h1 := all_at h hd
  exact of_decide_eq_true h1
theorem bdD_at {L : List (List Ds)} {j : Nat} {l : List Ds} (h : bdD L = true) (hd : L[j]? = some l) : bdL l = true := by
  have h1 := all_at h hd
  exact h1
theorem copied_fin {w : World} {lo i c : Nat} {z : Int} {s : Option Addr} {T : List (TE Ds)} {L : List (List Ds)} (hT : T.map (·.2.2) = mvL z (L.take i)) (hi : ¬ (i : Int) < (L.length : Int)) (hTb : Tab w 76 75 2 dsC s c T) (hg : ∀ k, tb s T k → lo ≤ k) :
    ∃ s' c', Value.slice s T.length c = .slice s' (mvL z L).length c' ∧ DdS (Iv lo w.heap.size) w s' (mvL z L) := by
  rw [List.take_of_length_le (by omega)] at hT
  refine ⟨s, c, by rw [← hT, List.length_map], ?_⟩
  rw [← hT]
  exact hTb.read (by decide) (fun _ => rfl) (fun k hk => ⟨hg k hk, hTb.lt hk⟩)
/-- a slice's parts -/
def sOf : Value → Option Addr
  | .slice s _ _ => s
  | _ => none
def cOf : Value → Nat
  | .slice _ _ c => c
  | _ => 0
theorem own_cap {w : World} {e : TypeId} {sz n c : Nat} {s : Option Addr} {xs : List Value} (h : OwnS w e sz s n c xs) : n ≤ c := by
  rcases h.2 with ⟨_, h1, h2⟩ | ⟨_, _, _, _, _, h1, _⟩
  · omega
  · exact h1
/-! ### Held things -/
section held
variable {α : Type}
def HR (Q : World → List Value → α → Prop) (w : World) : List Value → List α → Prop
  | us, [] => us = []
  | us, x :: l => ∃ a b, us = a ++ b ∧ Q w a x ∧ HR Q w b l
theorem HR.snoc {Q : World → List Value → α → Prop} {w : World} {a : List Value} {x : α} : ∀ {l : List α} {us : List Value}, HR Q w us l → Q w a x → HR Q w (us ++ a) (l ++ [x])
  | [], us, h, hq => by
    have h : us = [] := h
    subst h
    exact ⟨a, [], by simp, hq, rfl⟩
  | y :: l, us, ⟨a', b, h1, h2, h3⟩, hq => by
    subst h1
    exact ⟨a', b ++ a, by simp, h2, h3.snoc hq⟩
theorem HR.mono {Q Q' : World → List Value → α → Prop} {w w' : World} (hq : ∀ a x, Q w a x → Q' w' a x) : ∀ {l : List α} {us : List Value}, HR Q w us l → HR Q' w' us l
  | [], _, h => h
  | _ :: _, _, ⟨a, b, h1, h2, h3⟩ => ⟨a, b, h1, hq _ _ h2, h3.mono hq⟩
theorem HR.at_ {Q : World → List Value → α → Prop} {w : World} {sz : Nat} (hQ : ∀ a x, Q w a x → a.length = sz) : ∀ {l : List α} {us : List Value} {i : Nat} {x : α}, HR Q w us l → l[i]? = some x → ∃ a, Q w a x ∧ ∀ (j : Nat) (v : Value), a[j]? = some v → us[i * sz + j]? = some v
  | [], _, _, _, _, h => by simp at h
  | y :: l, us, 0, x, ⟨a, b, h1, h2, h3⟩, h => by
    simp at h; subst h; subst h1
    refine ⟨a, h2, fun j v hv => ?_⟩
    rw [Nat.zero_mul, Nat.zero_add, List.getElem?_append_left (List.getElem?_eq_some_iff.1 hv).1]; exact hv
  | y :: l, us, i + 1, x, ⟨a, b, h1, h2, h3⟩, h => by
    obtain ⟨a', g1, g2⟩ := h3.at_ hQ (i := i) (x := x) (by simpa using h)
    subst h1
    refine ⟨a', g1, fun j v hv => ?_⟩
    have hl := hQ _ _ h2
    rw [List.getElem?_append_right (by rw [hl, Nat.succ_mul]; omega), hl, Nat.succ_mul, show i * sz + sz + j - sz = i * sz + j by omega]
    exact g2 j v hv
/-- how a thing is held: it abides while its blocks do -/
structure QS (sz : Nat) (Q : (Nat → Prop) → World → List Value → α → Prop) : Prop where
  st : ∀ {Z S : Nat → Prop} {w w' : World} {a : List Value} {x : α}, Q Z w a x → Fr S w w' → (∀ k, Z k → ¬ S k) → Q Z w' a x
  wd : ∀ {Z Z' : Nat → Prop} {w : World} {a : List Value} {x : α}, Q Z w a x → (∀ k, Z k → Z' k) → Q Z' w a x
  ln : ∀ {Z : Nat → Prop} {w : World} {a : List Value} {x : α}, Q Z w a x → a.length = sz
def HZ (sz : Nat) (Q : (Nat → Prop) → World → List Value → α → Prop) (Z : Nat → Prop) (w : World) (us : List Value) (l : List α) : Prop := QS sz Q ∧ HR (Q Z) w us l ∧ ∀ k, Z k → k < w.heap.size
variable {sz : Nat} {Q : (Nat → Prop) → World → List Value → α → Prop} {Z Z2 S : Nat → Prop} {w w' : World} {us a : List Value} {l : List α} {x : α}
theorem HZ.lt (h : HZ sz Q Z w us l) {k : Nat} (hk : Z k) : k < w.heap.size := h.2.2 k hk
theorem HZ.fr (h : HZ sz Q Z w us l) (hf : Fr S w w') (hS : ∀ k, Z k → ¬ S k) : HZ sz Q Z w' us l := ⟨h.1, h.2.1.mono (fun _ _ hq => h.1.st hq hf hS), fun k hk => Nat.lt_of_lt_of_le (h.2.2 k hk) hf.size⟩
theorem HZ.ext (h : HZ sz Q Z w us l) (hf : Ext w w') : HZ sz Q Z w' us l := h.fr hf (fun _ _ hn => hn)
theorem HZ.nil (hQ : QS sz Q) (w : World) : HZ sz Q (fun _ => False) w [] ([] : List α) := ⟨hQ, rfl, fun _ h => h.elim⟩
theorem HZ.snoc (h : HZ sz Q Z w us l) (hq : Q Z2 w a x) (h2 : ∀ k, Z2 k → k < w.heap.size) : HZ sz Q (fun k => Z k ∨ Z2 k) w (us ++ a) (l ++ [x]) :=
  ⟨h.1, (h.2.1.mono (fun _ _ hq => h.1.wd hq (fun _ => .inl))).snoc (h.1.wd hq (fun _ => .inr)), fun k hk => hk.elim (h.2.2 k) (h2 k)⟩
theorem HZ.sl {F : Nat → Prop} {e : TypeId} {n cap : Nat} {s : Option Addr} {C : World → Nat → Nat → α → Prop} (h : HZ sz Q Z w us l) (ho : OwnS w e sz s n cap us) (hsz : 0 < sz) (hC : ∀ b off a x, Q Z w a x → Cs w b off a → C w b off x) (hs : ∀ k, ob s k → F k) : Sl F w s sz l C := fun i x hi => by
  obtain ⟨a, h1, h2⟩ := h.2.1.at_ (fun _ _ hq => h.1.ln hq) hi
  have hln := h.1.ln h1
  rcases ho.2 with ⟨_, h3, _⟩ | ⟨g, o, cur, rfl, hB, g1, _, g3, g4⟩
  · have := ho.1
    subst h3
    rw [Nat.zero_mul] at this
    obtain rfl := List.eq_nil_of_length_eq_zero this
    cases a with
    | nil => simp at hln; omega
    | cons v a => have := h2 0 v rfl; simp at this
  · refine ⟨g, o, rfl, hs g ⟨o, none, rfl⟩, hC _ _ _ _ h1 (fun j v hv => ?_)⟩
    have := h2 j v hv
    refine hB.cell _ ?_
    rw [← g4, List.getElem?_take, List.getElem?_drop] at this
    split at this
    · rw [Nat.add_assoc]; exact this
    · cases this
end held
/-- a list of lists of places -/
def DZ (Z : Nat → Prop) (w : World) (s : Option Addr) (L : List (List Ds)) : Prop := DdS Z w s L ∧ ∀ k, Z k → k < w.heap.size
section dz
variable {Z S : Nat → Prop} {w w' : World} {s : Option Addr} {L : List (List Ds)}
theorem DZ.lt (h : DZ Z w s L) {k : Nat} (hk : Z k) : k < w.heap.size := h.2 k hk
theorem DZ.fr (h : DZ Z w s L) (hf : Fr S w w') (hS : ∀ k, Z k → ¬ S k) : DZ Z w' s L := ⟨h.1.fr (dd_stab Z) hf hS, fun k hk => Nat.lt_of_lt_of_le (h.2 k hk) hf.size⟩
theorem DZ.ext (h : DZ Z w s L) (hf : Ext w w') : DZ Z w' s L := h.fr hf (fun _ _ hn => hn)
theorem DZ.of {lo : Nat} (h : DdS (Iv lo w.heap.size) w s L) : DZ (Iv lo w.heap.size) w s L := ⟨h, fun k hk => hk.2⟩
end dz
def QI (Z : Nat → Prop) (w : World) (a : List Value) (x : Ins) : Prop := ∃ so co, a = inL x so co ∧ DdS Z w so x.outs
def QG (Z : Nat → Prop) (w : World) (a : List Value) (g : Sg) : Prop := ∃ ss cs si ci, a = sgL g ss cs si ci ∧ DdS Z w ss g.st ∧ InS Z w si g.ins ∧ g.ins.length ≤ ci
def QL (Z : Nat → Prop) (w : World) (a : List Value) (x : Slt) : Prop := ∃ ss cs, a = slL x ss cs ∧ DdS Z w ss x.st
theorem qi_s : QS 4 QI := ⟨fun ⟨so, co, h1, h2⟩ hf hS => ⟨so, co, h1, h2.fr (dd_stab _) hf hS⟩, fun ⟨so, co, h1, h2⟩ hZ => ⟨so, co, h1, dd_wide hZ h2⟩, fun ⟨so, co, h1, h2⟩ => by rw [h1]; rfl⟩
theorem qg_s : QS 4 QG := ⟨fun ⟨ss, cs, si, ci, h1, h2, h3, h4⟩ hf hS => ⟨ss, cs, si, ci, h1, h2.fr (dd_stab _) hf hS, h3.fr (in_stab _) hf hS, h4⟩, fun ⟨ss, cs, si, ci, h1, h2, h3, h4⟩ hZ => ⟨ss, cs, si, ci, h1, dd_wide hZ h2, in_wide hZ h3, h4⟩, fun ⟨ss, cs, si, ci, h1, h2⟩ => by rw [h1]; rfl⟩
theorem ql_s : QS 6 QL := ⟨fun ⟨so, co, h1, h2⟩ hf hS => ⟨so, co, h1, h2.fr (dd_stab _) hf hS⟩, fun ⟨so, co, h1, h2⟩ hZ => ⟨so, co, h1, dd_wide hZ h2⟩, fun ⟨so, co, h1, h2⟩ => by rw [h1]; rfl⟩
theorem qi_sl {Z F : Nat → Prop} {w : World} {us : List Value} {l : List Ins} {n cap : Nat} {s : Option Addr} (h : HZ 4 QI Z w us l) (ho : OwnS w 73 4 s n cap us) (hZ : ∀ k, Z k → F k) (hs : ∀ k, ob s k → F k) : InS F w s l :=
  h.sl ho (by decide) (fun b off a x ⟨so, co, h1, h2⟩ hc => ⟨so, co, by rw [← h1]; exact hc, dd_wide hZ h2⟩) hs
theorem qg_sl {Z F : Nat → Prop} {w : World} {us : List Value} {l : List Sg} {n cap : Nat} {s : Option Addr} (h : HZ 4 QG Z w us l) (ho : OwnS w 181 4 s n cap us) (hZ : ∀ k, Z k → F k) (hs : ∀ k, ob s k → F k) : SgS F w s l :=
  h.sl ho (by decide) (fun b off a x ⟨ss, cs, si, ci, h1, h2, h3, h4⟩ hc => ⟨ss, cs, si, ci, by rw [← h1]; exact hc, dd_wide hZ h2, in_wide hZ h3, h4⟩) hs
theorem ql_sl {Z F : Nat → Prop} {w : World} {us : List Value} {l : List Slt} {n cap : Nat} {s : Option Addr} (h : HZ 6 QL Z w us l) (ho : OwnS w 78 6 s n cap us) (hZ : ∀ k, Z k → F k) (hs : ∀ k, ob s k → F k) : SoS F w s l :=
  h.sl ho (by decide) (fun b off a x ⟨so, co, h1, h2⟩ hc => ⟨so, co, by rw [← h1]; exact hc, dd_wide hZ h2⟩) hs
/-! ### The list of a store, and back -/
def slotAt (S : Sto) (n : Int) : Slt := (S.slots[n.toNat]?).getD ⟨⟨#[]⟩, 0, 0, 0, false, []⟩
def segI (S : Sto) (b : Nat) (x : Ins) : Ins := if x.op = 20 then ⟨x.op, (slotAt S x.n).nm, 0, mvL (-(b : Int)) x.outs⟩ else ⟨x.op, x.nm, x.n, mvL (-(b : Int)) x.outs⟩
def insOf (S : Sto) (x : Slt) : List Ins := (S.code.take (x.base + x.size)).drop x.base
def segG (S : Sto) (x : Slt) : Sg := ⟨x.nm, x.ex, mvL (-(x.base : Int)) x.st, (insOf S x).map (segI S x.base)⟩
def segsL (S : Sto) : List Sg := S.slots.map (segG S)
theorem segI_20 {S : Sto} {b : Nat} {x : Ins} (h : x.op = 20) : segI S b x = ⟨x.op, (slotAt S x.n).nm, 0, mvL (-(b : Int)) x.outs⟩ := if_pos h
theorem segI_no {S : Sto} {b : Nat} {x : Ins} (h : ¬ x.op = 20) : segI S b x = ⟨x.op, x.nm, x.n, mvL (-(b : Int)) x.outs⟩ := if_neg h
def segOk (S : Sto) : Bool := (S.slots.all fun x => decide (x.base + x.size ≤ S.code.length) && !x.loop && bdD x.st) && S.code.all fun x => bdD x.outs && (decide (x.op ≠ 20) || decide (x.nm = ⟨#[]⟩ ∧ 0 ≤ x.n ∧ x.n < (S.slots.length : Int)))
theorem segOk_slot {S : Sto} {i : Nat} {x : Slt} (h : segOk S = true) (hx : S.slots[i]? = some x) : x.base + x.size ≤ S.code.length ∧ x.loop = false ∧ bdD x.st = true := by
  have h1 := all_at (Bool.and_eq_true_iff.1 h).1 hx
  simp only [Bool.and_eq_true, decide_eq_true_eq, Bool.not_eq_true'] at h1
  exact ⟨h1.1.1, h1.1.2, h1.2⟩
theorem segOk_code {S : Sto} {i : Nat} {x : Ins} (h : segOk S = true) (hx : S.code[i]? = some x) : bdD x.outs = true ∧ (x.op = 20 → x.nm = ⟨#[]⟩ ∧ 0 ≤ x.n ∧ x.n < (S.slots.length : Int) ∧ S.slots[x.n.toNat]? = some (slotAt S x.n)) := by
  have h1 := all_at (Bool.and_eq_true_iff.1 h).2 hx
  simp only [Bool.and_eq_true, decide_eq_true_eq, Bool.or_eq_true] at h1
  refine ⟨h1.1, fun h20 => ?_⟩
  obtain ⟨g1, g2, g3⟩ := h1.2.resolve_left (fun g => g h20)
  refine ⟨g1, g2, g3, ?_⟩
  unfold slotAt
  have : x.n.toNat < S.slots.length := by omega
  rw [List.getElem?_eq_getElem this]; rfl
theorem insOf_at {S : Sto} {x : Slt} {j : Nat} {y : Ins} (h : (insOf S x)[j]? = some y) : S.code[x.base + j]? = some y := by
  unfold insOf at h
  rw [List.getElem?_drop, List.getElem?_take] at h
  split at h
  · exact h
  · cases h
theorem insOf_len {S : Sto} {x : Slt} (h : x.base + x.size ≤ S.code.length) : (insOf S x).length = x.size := by
  unfold insOf; simp; omega
theorem map_step {α β : Type} {f : α → β} {l : List α} {i : Nat} {x : α} (h : l[i]? = some x) : (l.take i).map f ++ [f x] = (l.take (i + 1)).map f := by
  rw [List.take_add_one, h, List.map_append]; rfl
/-! The store of a list. -/
def idxV : Option Value → Int
  | some (.int _ n) => n
  | _ => 0
def idxN (l : List Sg) (nm : ByteArray) : Int := idxV (getL (atL l) nm)
theorem idx_get {l : List Sg} {nm : ByteArray} (h : (calleeOf l nm).isSome = true) : (getL (atL l) nm).getD (.int .i64 0) = .int .i64 (idxN l nm) := by
  obtain ⟨n, _, hg⟩ := callee_at h
  unfold idxN
  rw [hg]; rfl
def placeI (l : List Sg) (b : Nat) (x : Ins) : Ins := if x.op = 20 then ⟨x.op, ⟨#[]⟩, idxN l x.nm, mvL (b : Int) x.outs⟩ else ⟨x.op, x.nm, x.n, mvL (b : Int) x.outs⟩
theorem placeI_20 {l : List Sg} {b : Nat} {x : Ins} (h : x.op = 20) : placeI l b x = ⟨x.op, ⟨#[]⟩, idxN l x.nm, mvL (b : Int) x.outs⟩ := if_pos h
theorem placeI_no {l : List Sg} {b : Nat} {x : Ins} (h : ¬ x.op = 20) : placeI l b x = ⟨x.op, x.nm, x.n, mvL (b : Int) x.outs⟩ := if_neg h
def placeC (l0 : List Sg) : List Sg → Nat → List Ins
  | [], _ => []
  | g :: r, b => g.ins.map (placeI l0 b) ++ placeC l0 r (b + g.ins.length)
def placeT (g : Sg) (b : Nat) : Slt := ⟨g.nm, b, g.ins.length, g.ex, isLoopB g.ins, mvL (b : Int) g.st⟩
def placeS : List Sg → Nat → List Slt
  | [], _ => []
  | g :: r, b => placeT g b :: placeS r (b + g.ins.length)
def placeL (l : List Sg) : Sto := ⟨placeS l 0, placeC l l 0⟩
theorem placeC_app (l0 : List Sg) (g : Sg) : ∀ (a : List Sg) (b : Nat), placeC l0 (a ++ [g]) b = placeC l0 a b ++ g.ins.map (placeI l0 (b + (placeC l0 a b).length))
  | [], b => by simp [placeC]
  | x :: a, b => by
    rw [List.cons_append, placeC, placeC, placeC_app l0 g a, List.append_assoc]
    congr 4
    simp; omega
theorem placeS_app (l0 : List Sg) (g : Sg) : ∀ (a : List Sg) (b : Nat), placeS (a ++ [g]) b = placeS a b ++ [placeT g (b + (placeC l0 a b).length)]
  | [], b => by simp [placeS, placeC]
  | x :: a, b => by
    rw [List.cons_append, placeS, placeS, placeS_app l0 g a, placeC]
    congr 4
    simp; omega
theorem placeC_step {l : List Sg} {i : Nat} {g : Sg} (h : l[i]? = some g) : placeC l (l.take (i + 1)) 0 = placeC l (l.take i) 0 ++ g.ins.map (placeI l (placeC l (l.take i) 0).length) := by
  rw [List.take_add_one, h, show (some g).toList = [g] from rfl, placeC_app, Nat.zero_add]
theorem placeS_step {l : List Sg} {i : Nat} {g : Sg} (h : l[i]? = some g) : placeS (l.take (i + 1)) 0 = placeS (l.take i) 0 ++ [placeT g (placeC l (l.take i) 0).length] := by
  rw [List.take_add_one, h, show (some g).toList = [g] from rfl, placeS_app l, Nat.zero_add]
theorem placeS_len : ∀ (a : List Sg) (b : Nat), (placeS a b).length = a.length
  | [], _ => rfl
  | x :: a, b => by rw [placeS, List.length_cons, placeS_len a, List.length_cons]
theorem placeC_bd {l : List Sg} (hs : smallG l = true) (i : Nat) : (placeC l (l.take i) 0).length ≤ 1000 * i := by
  induction i with
  | zero => simp [placeC]
  | succ i ih =>
    cases hx : l[i]? with
    | none => rw [List.take_of_length_le (by have := List.getElem?_eq_none_iff.1 hx; omega)]; rw [List.take_of_length_le (by have := List.getElem?_eq_none_iff.1 hx; omega)] at ih; omega
    | some x =>
      rw [placeC_step hx]
      have := smallI_len (smallG_at hs hx).2.1
      simp; omega
/-- lists that can be placed -/
def placeOk (l : List Sg) : Bool := decide (l.length ≤ 90) && l.all fun g => bdD g.st && g.ins.all fun x => bdD x.outs && okN l x
theorem placeOk_at {l : List Sg} {i : Nat} {g : Sg} (h : placeOk l = true) (hg : l[i]? = some g) : bdD g.st = true ∧ ∀ {j : Nat} {x : Ins}, g.ins[j]? = some x → bdD x.outs = true ∧ okN l x = true := by
  have h1 := all_at (Bool.and_eq_true_iff.1 h).2 hg
  simp only [Bool.and_eq_true] at h1
  refine ⟨h1.1, fun hx => ?_⟩
  have h2 := all_at h1.2 hx
  simpa only [Bool.and_eq_true] using h2
section lts
variable {w : World} {F : Nat → Prop} {s : Option Addr}
theorem cell_lt {b o : Nat} {v : Value} (h : w.cell? ⟨b, o, none⟩ = some v) : b < w.heap.size := by
  rcases Nat.lt_or_ge b w.heap.size with g | g
  · exact g
  · unfold World.cell? at h
    rw [Array.getElem?_eq_none g] at h
    simp at h
theorem ds_lt {l : List Ds} (h : DsS F w s l) : DsS (fun k => F k ∧ k < w.heap.size) w s l := fun i x hx => by
  obtain ⟨b, o, h1, h2, h3⟩ := h i x hx
  exact ⟨b, o, h1, ⟨h2, cell_lt (h3 0 _ rfl)⟩, h3⟩
theorem dd_lt {L : List (List Ds)} (h : DdS F w s L) : DdS (fun k => F k ∧ k < w.heap.size) w s L := fun i x hx => by
  obtain ⟨b, o, h1, h2, s', c, h3, h4⟩ := h i x hx
  exact ⟨b, o, h1, ⟨h2, cell_lt h3⟩, s', c, h3, ds_lt h4⟩
end lts
/-! Stores that are right. -/
def okS (SS : Sto) : Bool := smallS SS && segOk SS && chkB (segsL SS) && placeOk (segsL SS) && decide (placeL (segsL SS) = SS)
structure OkS (SS : Sto) : Prop where
  sm : smallS SS = true
  seg : segOk SS = true
  chk : ChkG (segsL SS)
  plc : placeOk (segsL SS) = true
  eq : placeL (segsL SS) = SS
theorem okS_parts {SS : Sto} (h : okS SS = true) : OkS SS := by
  unfold okS at h
  simp only [Bool.and_eq_true, decide_eq_true_eq] at h
  exact ⟨h.1.1.1.1, h.1.1.1.2, chkB_parts h.1.1.2, h.1.2, h.2⟩
theorem smallS_slots {SS : Sto} (h : smallS SS = true) : ∀ (i : Nat) (x : Slt), SS.slots[i]? = some x → smallD x.st = true := fun _ _ hx => (smallS_at h hx).1
theorem smallS_ins {SS : Sto} (h : smallS SS = true) : ∀ (i : Nat) (x : Ins), SS.code[i]? = some x → smallD x.outs = true := fun _ _ hx => smallI_at (smallS_code h) hx

/-! Elements: entries, tokens, ports. -/
structure Ent where
  ctx : Int
  at_ : Int
  ports : List Vl
deriving instance DecidableEq for Ent
abbrev enL (x : Ent) (s : Option Addr) (c : Nat) : List Value := [.int .i64 x.ctx, .int .i64 x.at_, .slice s x.ports.length c]
def EnC (F : Nat → Prop) : World → Nat → Nat → Ent → Prop := fun w b off x => ∃ s c, Cs w b off (enL x s c) ∧ VlS F w s x.ports
theorem en_stab (F : Nat → Prop) : Stab F (EnC F) := fun _ _ _ b _ _ hf hS hF ⟨s, c, h1, h2⟩ => ⟨s, c, h1.fr hf (hS b hF), h2.fr (vl_stab F) hf hS⟩
abbrev EnS (F : Nat → Prop) (w : World) (s : Option Addr) (l : List Ent) : Prop := Sl F w s 3 l (EnC F)
theorem en_wide {F F' : Nat → Prop} {w : World} {s : Option Addr} {l : List Ent} (hF : ∀ b, F b → F' b) (h : EnS F w s l) : EnS F' w s l := (h.map (fun _ _ _ _ ⟨s, c, h1, h2⟩ => ⟨s, c, h1, h2.wide hF⟩)).wide hF
abbrev Tok := Int × Int × Int × Vl
def tkC (t : Tok) : List Value := [.int .i64 t.1, .int .i64 t.2.1, .int .i64 t.2.2.1, .int .u8 t.2.2.2.1, .int .i64 t.2.2.2.2]
abbrev TkS (F : Nat → Prop) (w : World) (s : Option Addr) (l : List Tok) : Prop := Sl F w s 5 l (Fl tkC)
theorem tk_stab (F : Nat → Prop) : Stab F (Fl tkC) := Fl.stab F tkC
/-- how many ports: the map -/
def ptT : List (Int × Int) := [(5, 2), (6, 2), (7, 2), (12, 2), (21, 2), (11, 3)]
def ptL : List (Int × Value) := ptT.map fun e => (e.1, .int .i64 e.2)
def ptV (k : Int) : Int := ((ptT.find? fun e => decide (e.1 = k)).map (·.2)).getD 0
theorem ptL_get (k : Int) : (getL ptL k).getD (.int .i64 0) = .int .i64 (ptV k) := by
  unfold getL ptL ptV
  rw [List.find?_map]
  simp only [Option.map_map, Function.comp_def]
  cases ptT.find? fun e => decide (e.1 = k) <;> rfl
def portN (x : Ins) : Int := if x.op = 4 then (arS x.nm : Nat) else if ptV x.op > 1 then ptV x.op else 1
theorem portN_4 {x : Ins} (h : x.op = 4) : Value.int .i64 (arS x.nm : Nat) = .int .i64 (portN x) := by unfold portN; rw [if_pos h]
theorem portN_0 {x : Ins} (h : ¬ x.op = 4) : Value.int .i64 (if ptV x.op > 1 then ptV x.op else 1) = .int .i64 (portN x) := by unfold portN; rw [if_neg h]
/-- values that fit (of integers and the empty stream alone) -/
def fitB (v : Vl) : Bool := decide (v.1 = 1 ∧ -1000000000 ≤ v.2 ∧ v.2 ≤ 1000000000) || decide (v.1 = 3 ∧ v.2 = 0)
theorem fitB_or {v : Vl} (h : fitB v = true) : (v.1 = 1 ∧ -1000000000 ≤ v.2 ∧ v.2 ≤ 1000000000) ∨ (v.1 = 3 ∧ v.2 = 0) := by
  unfold fitB at h
  simpa only [Bool.or_eq_true, decide_eq_true_eq] using h
def holeB (v : Vl) : Bool := decide (v.1 = 0 ∧ v.2 = 0)
def holesN (l : List Vl) : Nat := (l.filter fun v => decide (v.1 = 0)).length
theorem holesN_step {l : List Vl} {i : Nat} {v : Vl} (h : l[i]? = some v) : holesN (l.take (i + 1)) = holesN (l.take i) + if v.1 = 0 then 1 else 0 := by
  unfold holesN
  rw [List.take_add_one, h, List.filter_append, List.length_append]
  by_cases hx : v.1 = 0 <;> simp [hx]
theorem holesN_le (l : List Vl) (i : Nat) : holesN (l.take i) ≤ i := by
  unfold holesN
  exact Nat.le_trans (List.length_filter_le ..) (by rw [List.length_take]; omega)
theorem holesN_end {l : List Vl} {i : Nat} (h : ¬ (i : Int) < (l.length : Int)) : holesN (l.take i) = holesN l := by rw [List.take_of_length_le (by omega)]
/-- operands that are right -/
def opsOk (x : Ins) (l : List Vl) : Bool := decide (portN x = (l.length : Int)) && decide (x.op ≠ 21) && l.all fun v => holeB v || fitB v
structure OpsOk (x : Ins) (l : List Vl) : Prop where
  n : portN x = (l.length : Int)
  na : x.op ≠ 21
  ok : (l.all fun v => holeB v || fitB v) = true
theorem opsOk_parts {x : Ins} {l : List Vl} (h : opsOk x l = true) : OpsOk x l := by
  unfold opsOk at h
  simp only [Bool.and_eq_true, decide_eq_true_eq] at h
  exact ⟨h.1.1, h.1.2, h.2⟩
def codeAt (SS : Sto) (n : Int) : Ins := (SS.code[n.toNat]?).getD ⟨0, ⟨#[]⟩, 0, []⟩
def placeB (SS : Sto) (n : Int) : Bool := decide (0 ≤ n ∧ n ≤ (SS.code.length : Int) - 1)
theorem placeB_at {SS : Sto} {n : Int} (h : placeB SS n = true) : (0 ≤ n ∧ n ≤ (SS.code.length : Int) - 1) ∧ SS.code[n.toNat]? = some (codeAt SS n) := by
  have h1 := of_decide_eq_true h
  refine ⟨h1, ?_⟩
  unfold codeAt
  rw [List.getElem?_eq_getElem (by omega)]; rfl
/-- entries that can wait -/
def waitB (SS : Sto) (x : Ent) : Bool := decide (0 ≤ x.ctx ∧ x.ctx ≤ 399) && placeB SS x.at_ && decide ((codeAt SS x.at_).op ≠ 6) && decide (2 ≤ portN (codeAt SS x.at_)) && opsOk (codeAt SS x.at_) x.ports && decide (0 < holesN x.ports ∧ holesN x.ports < x.ports.length) && decide (x.ports.length ≤ 1000)
structure WaitB (SS : Sto) (x : Ent) : Prop where
  ctx : 0 ≤ x.ctx ∧ x.ctx ≤ 399
  plc : placeB SS x.at_ = true
  nm : (codeAt SS x.at_).op ≠ 6
  two : 2 ≤ portN (codeAt SS x.at_)
  ops : opsOk (codeAt SS x.at_) x.ports = true
  ho : 0 < holesN x.ports ∧ holesN x.ports < x.ports.length
  len : x.ports.length ≤ 1000
theorem waitB_parts {SS : Sto} {x : Ent} (h : waitB SS x = true) : WaitB SS x := by
  unfold waitB at h
  simp only [Bool.and_eq_true, decide_eq_true_eq] at h
  obtain ⟨⟨⟨⟨⟨⟨h1, h2⟩, h3⟩, h4⟩, h5⟩, h6⟩, h7⟩ := h
  exact ⟨h1, h2, h3, h4, h5, h6, h7⟩
theorem one_sl {w : World} {b : Nat} {n : Int} {T : TypeId} (h : Blk w b [.int .i64 n] T) : Sl (fun _ => True) w (some ⟨b, 0, none⟩) 1 [n] (Fl intC) := fun i x hx => by
  cases i with
  | zero =>
    simp at hx; subst hx
    exact ⟨b, 0, rfl, trivial, fun j v hv => by
      cases j with
      | zero => simp [intC] at hv; subst hv; exact h.cell 0 rfl
      | succ j => simp [intC] at hv⟩
  | succ i => simp at hx
theorem win_e {n a b : Int} : Value.bool (!([n].any fun z => decide (z < a ∨ z > b))) = .bool (decide (a ≤ n ∧ n ≤ b)) := by
  congr 1
  by_cases h : n < a ∨ n > b
  · rw [List.any_cons, decide_eq_true h]; simp; omega
  · rw [List.any_cons, decide_eq_false h]; simp; omega

/-! Lists of entries: what is held, put together, copied. -/
section room
variable {P : Program} {N : Nat} {ρ : Nat → Value} {w w' : World} {T Ty t e : TypeId} {x y : Operand} {d : Option Tmp} {p : String} {a : Array Edge} {g : Option (Nat × Bool)} {r : Option Nat} {ds : List Deferred} {lo rest : List Oper} {K : (Nat → Value) → World → Prop} {s : Option Addr} {n cap size : Nat}
theorem rn_sub00 {m : Int} (hx : ev N ρ x = .int .i64 m) (hy : ev N ρ y = .int .i64 (((0 : Nat) : Int) - ((0 : Nat) : Int))) (h : -9223372036854775808 ≤ m ∧ m < 9223372036854775808) : Rn P N ⟨d, .binOp .sub T x y Ty, t, p, a, g⟩ ρ w (.int .i64 m) w := by
  have h2 := rn_sub (P := P) (d := d) (T := T) (Ty := Ty) (t := t) (p := p) (a := a) (g := g) (w := w) hx hy (by omega)
  have e : m - (((0 : Nat) : Int) - ((0 : Nat) : Int)) = m := by omega
  rw [e] at h2; exact h2
theorem OwnS.cut {xs : List Value} (h : OwnS w e size s n cap xs) : OwnS w e size s 0 cap [] := by
  refine ⟨by simp, ?_⟩
  rcases h.2 with ⟨h1, h2, h3⟩ | ⟨g, o, cur, h1, h2, h3, h4, h5, h6⟩
  · exact .inl ⟨h1, rfl, h3⟩
  · exact .inr ⟨g, o, cur, h1, h2, Nat.zero_le _, h4, h5, by simp⟩
theorem lx_appendZ {z : List Value} {kn : IntKind} (bytes k : Nat) (hw : Want N lo ⟨d, .call { callee := .builtin .append, args := #[x, y], argTypes := #[T, Ty] }, t, p, a, g⟩ ρ true) (ht : P.underlying T = some (.slice e)) (htn : P.underlying Ty = some (.int kn)) (hi : TI P e z size bytes) (hsz : 0 < size) (hzl : z.length = size) (hby : bytes ≤ 65536)
    (hx : ev N ρ x = .slice none 0 0) (hy : ev N ρ y = .int .i64 (k : Int)) (h0 : 0 < k) (hbd : k ≤ 1073741824)
    (kk : ∀ (b c : Nat) (w' : World), b = w.heap.size → Ext w w' → OwnS w' e size (some ⟨b, 0, none⟩) 0 c [] → LX r P N ds lo K rest (up ρ d (.slice (some ⟨b, 0, none⟩) k c)) w') :
    LX r P N ds lo K (⟨d, .call { callee := .builtin .append, args := #[x, y], argTypes := #[T, Ty] }, t, p, a, g⟩ :: rest) ρ w := by
  obtain ⟨i, u, hinf, hz, hzu, rfl, hb⟩ := hi
  have hprod : (0 + k) * i.bytes ≤ 140737488355328 := by rw [hb, Nat.zero_add]; exact Nat.le_trans (Nat.mul_le_mul hbd hby) (by decide)
  have hr := Go.Lib.run_append_grow_zeros (P := P) w T Ty t e i u .i64 kn ht htn hinf hz none 0 0 [] (run_firstCells_none w.drew i.size 0 0 0) k h0 hsz (by omega) (by omega) (by rw [Nat.zero_add] at hprod; omega) (growslice_fits (by omega) hprod)
  simp only [Nat.zero_add] at hr
  have hge := grownCap_ge w k 0 e
  have hcm := grownCap_le_maxLen w k 0 e (by unfold maxLen; omega)
  have hOwn : OwnS (w.drew.alloc (Obj.cells (#[] ++ Builtin.zeroCells u.cells k ++ Builtin.zeroCells u.cells (grownCap w k 0 e - k)) e)) e i.size (some ⟨w.heap.size, 0, none⟩) 0 (grownCap w k 0 e) [] := by
    refine ⟨by simp, .inr ⟨w.heap.size, 0, _, rfl, Blk.alloc w.drew _ e, Nat.zero_le _, hcm, ?_, by simp⟩⟩
    simp only [Array.length_toList, Array.size_append, List.size_toArray, size_zeroCells, hzu, hzl, List.length_nil, Nat.zero_add, ← Nat.add_mul]
    refine Nat.le_of_eq ?_
    congr 1
    omega
  generalize Obj.cells (#[] ++ Builtin.zeroCells u.cells k ++ Builtin.zeroCells u.cells (grownCap w k 0 e - k)) e = O at hr hOwn
  have hx2 : Ext w (w.drew.alloc O) := (ext_drew w).trans' (ext_alloc _ _)
  exact lx_value hw (v := .slice (some ⟨w.heap.size, 0, none⟩) k (grownCap w k 0 e)) ⟨fun _ h => (by cases h), by simp [execOp, resolve, invoke, builtin, hx, hy, hr]⟩ (kk _ _ _ rfl hx2 hOwn)
end room
def QE (Z : Nat → Prop) (w : World) (a : List Value) (x : Ent) : Prop := ∃ s c, a = enL x s c ∧ VlS Z w s x.ports
/-- entries whose values are ours too -/
def QO (Z : Nat → Prop) (w : World) (a : List Value) (x : Ent) : Prop := ∃ s c, a = enL x s c ∧ OwnS w 48 2 s x.ports.length c (x.ports.flatMap vlC) ∧ ∀ k, ob s k → Z k
theorem qo_s : QS 3 QO := ⟨fun ⟨s, c, h1, h2, h3⟩ hf hS => ⟨s, c, h1, h2.fr hf (fun k hk => hS k (h3 k hk)), h3⟩, fun ⟨s, c, h1, h2, h3⟩ hZ => ⟨s, c, h1, h2, fun k hk => hZ k (h3 k hk)⟩, fun ⟨s, c, h1, h2⟩ => by rw [h1]; rfl⟩
theorem qo_sl {Z F : Nat → Prop} {w : World} {us : List Value} {l : List Ent} {n cap : Nat} {s : Option Addr} (h : HZ 3 QO Z w us l) (ho : OwnS w 55 3 s n cap us) (hZ : ∀ k, Z k → F k) (hs : ∀ k, ob s k → F k) : EnS F w s l :=
  h.sl ho (by decide) (fun b off a x ⟨s, c, h1, h2, h3⟩ hc => ⟨s, c, by rw [← h1]; exact hc, h2.sl (by decide) rfl (fun _ _ => rfl) (fun k hk => hZ k (h3 k hk))⟩) hs
/-- the cells of entries that are read -/
theorem en_cells {F : Nat → Prop} {w : World} {s : Option Addr} {l : List Ent} (h : EnS F w s l) : ∀ n, n ≤ l.length → ∃ us, HR (QE F) w us (l.take n) ∧ us.length = n * 3 ∧ ∀ (i j : Nat) (v : Value), j < 3 → us[i * 3 + j]? = some v → ∃ b o, s = some ⟨b, o, none⟩ ∧ w.cell? ⟨b, o + (i * 3 + j), none⟩ = some v
  | 0, _ => ⟨[], rfl, rfl, fun i j v _ h => by simp at h⟩
  | n + 1, hn => by
    obtain ⟨us, h1, h2, h3⟩ := en_cells h n (by omega)
    obtain ⟨x, hx⟩ : ∃ x, l[n]? = some x := ⟨_, List.getElem?_eq_getElem (by omega)⟩
    obtain ⟨b, o, hs, hF, s', c, g1, g2⟩ := h n x hx
    refine ⟨us ++ enL x s' c, by rw [List.take_add_one, hx]; exact h1.snoc ⟨s', c, rfl, g2⟩, by simp [h2]; omega, fun i j v hj hv => ?_⟩
    by_cases hi : i < n
    · rw [List.getElem?_append_left (by rw [h2]; omega)] at hv
      exact h3 i j v hj hv
    · rw [List.getElem?_append_right (by rw [h2]; omega), h2] at hv
      have hlt := (List.getElem?_eq_some_iff.1 hv).1
      have e : i = n := by simp at hlt; omega
      subst e
      rw [show i * 3 + j - i * 3 = j by omega] at hv
      refine ⟨b, o, hs, ?_⟩
      have := g1 j v hv
      rw [Nat.add_assoc] at this; exact this
theorem enL_one {x : Ent} {s : Option Addr} {c : Nat} {u : Value} (hu : u ∈ enL x s c) : u.oneCell' = true := by
  simp only [enL, List.mem_cons, List.not_mem_nil, or_false] at hu
  rcases hu with rfl | rfl | rfl <;> rfl
theorem hr_one {F : Nat → Prop} {w : World} : ∀ {l : List Ent} {us : List Value}, HR (QE F) w us l → ∀ u ∈ us, u.oneCell' = true
  | [], us, h, u, hu => by
    have h : us = [] := h
    subst h; simp at hu
  | x :: l, us, ⟨a, b, h1, ⟨s, c, h2, _⟩, h3⟩, u, hu => by
    subst h1
    rcases List.mem_append.1 hu with h | h
    · rw [h2] at h; exact enL_one h
    · exact hr_one h3 u h
theorem en_src {F : Nat → Prop} {w : World} {s : Option Addr} {l : List Ent} (h : EnS F w s l) : ∃ us, HR (QE F) w us l ∧ Go.Eng.Src w 3 s l.length us := by
  obtain ⟨us, h1, h2, h3⟩ := en_cells h l.length (Nat.le_refl _)
  rw [List.take_length] at h1
  refine ⟨us, h1, h2, hr_one h1, fun k v hv => ?_⟩
  have e : k = k / 3 * 3 + k % 3 := by omega
  have := h3 (k / 3) (k % 3) v (by omega) (by rw [← e]; exact hv)
  rw [← e] at this; exact this
theorem HR.append {α : Type} {Q : World → List Value → α → Prop} {w : World} : ∀ {l m : List α} {us vs : List Value}, HR Q w us l → HR Q w vs m → HR Q w (us ++ vs) (l ++ m)
  | [], m, us, vs, h, h2 => by
    have h : us = [] := h
    subst h; simpa using h2
  | x :: l, m, us, vs, ⟨a, b, h1, h3, h4⟩, h2 => ⟨a, b ++ vs, by rw [h1, List.append_assoc], h3, h4.append h2⟩
/-- cells that are ours, parts that are not -/
theorem own_en {F G : Nat → Prop} {w w' : World} {us : List Value} {l : List Ent} {n cap : Nat} {s : Option Addr} (h : HR (QE F) w us l) (hf : Ext w w') (ho : OwnS w' 55 3 s n cap us) (hF : ∀ k, F k → G k) (hs : ∀ k, ob s k → G k) : EnS G w' s l := fun i x hi => by
  obtain ⟨a, ⟨s', c, h1, h1'⟩, h2⟩ := h.at_ (sz := 3) (fun _ _ ⟨_, _, hq, _⟩ => by rw [hq]; rfl) hi
  subst h1
  rcases ho.2 with ⟨_, h3, _⟩ | ⟨g, o, cur, rfl, hB, g1, _, g3, g4⟩
  · have := ho.1
    subst h3
    rw [Nat.zero_mul] at this
    obtain rfl := List.eq_nil_of_length_eq_zero this
    have := h2 0 _ rfl; simp at this
  · refine ⟨g, o, rfl, hs g ⟨o, none, rfl⟩, s', c, fun j v hv => ?_, (h1'.ext (vl_stab _) hf).wide hF⟩
    have := h2 j v hv
    refine hB.cell _ ?_
    rw [← g4, List.getElem?_take, List.getElem?_drop] at this
    split at this
    · rw [Nat.add_assoc]; exact this
    · cases this
def ptsL (l : List Ent) : List Ds := l.map fun x => (x.ctx, x.at_)
theorem ptsL_step {l : List Ent} {i : Nat} {x : Ent} (h : l[i]? = some x) : (ptsL (l.take i)).flatMap dsC ++ [.int .i64 x.ctx, .int .i64 x.at_] = (ptsL (l.take (i + 1))).flatMap dsC := by
  unfold ptsL
  rw [List.take_add_one, h, List.map_append, List.flatMap_append]; rfl
def ptM (l : List Ds) : List (Ds × Value) := l.map fun d => (d, .bool true)
theorem ptM_step {l : List Ds} {i : Nat} {d : Ds} (h : l[i]? = some d) : ptM (l.take i) ++ [(d, .bool true)] = ptM (l.take (i + 1)) := by
  unfold ptM
  rw [List.take_add_one, h, List.map_append]; rfl
theorem ptM_new {l : List Ds} {i : Nat} {d : Ds} (hn : l.Nodup) (h : l[i]? = some d) : getL (ptM (l.take i)) d = none := by
  refine getL_none (fun p hp e => ?_)
  unfold ptM at hp
  obtain ⟨q, hq, rfl⟩ := List.mem_map.1 hp
  simp only at e
  subst e
  obtain ⟨j, hj⟩ := List.mem_iff_getElem?.1 hq
  have hji : j < i := by
    have := (List.getElem?_eq_some_iff.1 hj).1
    rw [List.length_take] at this; omega
  rw [List.getElem?_take_of_lt hji] at hj
  have h1 := List.getElem?_eq_some_iff.1 hj
  have h2 := List.getElem?_eq_some_iff.1 h
  exact (List.pairwise_iff_getElem.1 hn) j i h1.1 h2.1 hji (by rw [h1.2, h2.2])
theorem ptM_len (l : List Ds) : (ptM l).length = l.length := List.length_map _
section two
variable {w : World} {b i : Nat} {s1 s2 : Option Addr} {n1 n2 c1 c2 : Nat} {T : TypeId}
theorem two_sl (h : Blk w b [.slice s1 n1 c1, .slice s2 n2 c2] T) (hi : i < 2) : w.cell? ⟨b, 0 + i * 1, none⟩ = some (.slice (if i = 0 then s1 else s2) (if i = 0 then n1 else n2) (if i = 0 then c1 else c2)) := by
  have e : i = 0 ∨ i = 1 := by omega
  rcases e with rfl | rfl
  · exact h.cell 0 rfl
  · exact h.cell 1 rfl
end two
def catL {α : Type} (a b : List α) (j : Nat) : List α := if j = 0 then [] else if j = 1 then a else a ++ b
theorem catL_on {α : Type} (a b : List α) {j : Nat} (h : j < 2) : catL a b (j + 1) = catL a b j ++ (if j = 0 then a else b) := by
  have e : j = 0 ∨ j = 1 := by omega
  rcases e with rfl | rfl <;> simp [catL]
theorem catL_len {α : Type} (a b : List α) {j : Nat} (h : j < 2) : (catL a b (j + 1)).length = (catL a b j).length + (if j = 0 then a.length else b.length) := by
  rw [catL_on a b h, List.length_append]
  split <;> rfl
theorem catL_bd {α : Type} (a b : List α) (j : Nat) : (catL a b j).length ≤ a.length + b.length := by
  unfold catL
  split
  · simp
  · split
    · omega
    · rw [List.length_append]; omega
theorem two_src {w : World} {s1 s2 : Option Addr} {n1 n2 j : Nat} {us1 us2 : List Value} (h1 : Go.Eng.Src w 3 s1 n1 us1) (h2 : Go.Eng.Src w 3 s2 n2 us2) (hj : j < 2) : Go.Eng.Src w 3 (if j = 0 then s1 else s2) (if j = 0 then n1 else n2) (if j = 0 then us1 else us2) := by
  have e : j = 0 ∨ j = 1 := by omega
  rcases e with rfl | rfl
  · exact h1
  · exact h2
/-- elements that are right -/
def rightE (SS : Sto) (room : Nat) (E1 E2 : List Ent) : Bool := decide (1 ≤ room ∧ room ≤ 64) && decide (E1.length ≤ room) && decide (0 < E2.length → room ≤ E1.length) && decide (E2.length ≤ 900) && (E1 ++ E2).all (waitB SS) && decide ((ptsL (E1 ++ E2)).Nodup)
structure RightE (SS : Sto) (room : Nat) (E1 E2 : List Ent) : Prop where
  rm : 1 ≤ room ∧ room ≤ 64
  len : E1.length ≤ room
  over : 0 < E2.length → room ≤ E1.length
  len2 : E2.length ≤ 900
  waits : ((E1 ++ E2).all (waitB SS)) = true
  nd : (ptsL (E1 ++ E2)).Nodup
theorem rightE_parts {SS : Sto} {room : Nat} {E1 E2 : List Ent} (h : rightE SS room E1 E2 = true) : RightE SS room E1 E2 := by
  unfold rightE at h
  simp only [Bool.and_eq_true, decide_eq_true_eq] at h
  obtain ⟨⟨⟨⟨⟨h1, h2⟩, h3⟩, h4⟩, h5⟩, h6⟩ := h
  exact ⟨h1, h2, h3, h4, h5, h6⟩
theorem RightE.ports {SS : Sto} {room : Nat} {E1 E2 : List Ent} (h : RightE SS room E1 E2) : (∀ x ∈ E1, x.ports.length ≤ 1000) ∧ ∀ x ∈ E2, x.ports.length ≤ 1000 :=
  ⟨fun x hx => (waitB_parts (List.all_eq_true.1 h.waits x (List.mem_append_left _ hx))).len, fun x hx => (waitB_parts (List.all_eq_true.1 h.waits x (List.mem_append_right _ hx))).len⟩
/-- an element at work -/
structure ElO (w : World) (lo b : Nat) (s1 : Option Addr) (c1 : Nat) (us1 : List Value) (Z1 : Nat → Prop) (s2 : Option Addr) (c2 : Nat) (us2 : List Value) (Z2 : Nat → Prop) (E1 E2 : List Ent) : Prop where
  o1 : OwnS w 55 3 s1 E1.length c1 us1
  h1 : HZ 3 QO Z1 w us1 E1
  o2 : OwnS w 55 3 s2 E2.length c2 us2
  h2 : HZ 3 QO Z2 w us2 E2
  lob : lo ≤ b
  lo1 : ∀ k, ob s1 k → lo ≤ k
  lo2 : ∀ k, ob s2 k → lo ≤ k
  lz1 : ∀ k, Z1 k → lo ≤ k
  lz2 : ∀ k, Z2 k → lo ≤ k
  n1 : ∀ k, ob s1 k → k ≠ b
  n2 : ∀ k, ob s2 k → k ≠ b
  nz1 : ∀ k, Z1 k → k ≠ b
  nz2 : ∀ k, Z2 k → k ≠ b
  oo : ∀ k, ob s1 k → ob s2 k → False
  oz1 : ∀ k, Z1 k → ob s1 k → False
  oz2 : ∀ k, Z2 k → ob s2 k → False
  x1 : ∀ k, Z2 k → ob s1 k → False
  x2 : ∀ k, Z1 k → ob s2 k → False
  zz : ∀ k, Z1 k → Z2 k → False
theorem take_snoc {α : Type} {l : List α} {i : Nat} {x : α} (h : l[i]? = some x) : l.take i ++ [x] = l.take (i + 1) := by rw [List.take_add_one, h]; rfl

/-! Slices that lose an element; stores into open regions. -/
section eng
variable {P : Program} {N : Nat} {ρ : Nat → Value} {w w' : World} {T Ty t e E : TypeId} {x y z q : Operand} {d : Option Tmp} {p : String} {a : Array Edge} {g : Option (Nat × Bool)} {r : Option Nat} {ds : List Deferred} {lo rest : List Oper} {K : (Nat → Value) → World → Prop} {s sx : Option Addr} {n cap cx size : Nat}
theorem rn_append00 {zs : List Value} {bytes : Nat} (ht : P.underlying T = some (.slice e)) (hi : TI P e zs size bytes) (hx : ev N ρ x = .slice s n cap) (hy : ev N ρ y = .slice sx 0 cx) (hn : n ≤ cap) :
    Rn P N ⟨d, .call { callee := .builtin .append, args := #[x, y], argTypes := #[T, T] }, t, p, a, g⟩ ρ w (.slice s n cap) w :=
  ⟨fun _ h => (by cases h), by
    obtain ⟨i, u, hi, hz, hzu, hs, hb⟩ := hi
    subst hs
    have hsrc : (Builtin.firstCells i.size 0 (.slice sx 0 cx)).run P w = .ok #[] w := by
      cases sx with
      | none => simp [Builtin.firstCells]
      | some b => exact run_firstCells_some (P := P) w i.size 0 b 0 cx [] (by simp) (fun j v hj => by simp at hj)
    cases s with
    | none => simp [execOp, resolve, invoke, builtin, hx, hy, Builtin.append_, run_underlying ht, sizeOf, typeInfo, hi, Builtin.lenOf, hn, hsrc]
    | some b => simp [execOp, resolve, invoke, builtin, hx, hy, Builtin.append_, run_underlying ht, sizeOf, typeInfo, hi, Builtin.lenOf, hn, hsrc, storeCells]⟩
theorem drop_0 {b o sz c : Nat} : dropAt (some (⟨b, o, none⟩ : Addr)) 0 c sz = some ⟨b, o, none⟩ := by
  unfold dropAt
  split <;> simp [Addr.add]
theorem rn_slice3 {len : Nat} (i j k : Nat) {m1 m2 m3 : Int} (ht : P.underlying T = some (.slice E)) (hs : ∀ w, (sizeOf E).run P w = .ok size w) (hx : ev N ρ x = .slice s len cap) (hy : ev N ρ y = .int .i64 m1) (hz : ev N ρ z = .int .i64 m2) (hq : ev N ρ q = .int .i64 m3) (h1 : m1 = (i : Int)) (h2 : m2 = (j : Int)) (h3 : m3 = (k : Int)) (hij : i ≤ j) (hjk : j ≤ k) (hkc : k ≤ cap) :
    Rn P N ⟨d, .slice T x (some y) (some z) (some q), t, p, a, g⟩ ρ w (.slice (dropAt s i k size) (j - i) (k - i)) w := by
  subst h1 h2 h3
  have g1 : (0 : Int) ≤ (i : Int) ∧ (i : Int) ≤ (j : Int) := by omega
  have g2 : (0 : Int) ≤ (j : Int) ∧ (j : Int) ≤ (k : Int) := by omega
  have g3 : (0 : Int) ≤ (k : Int) ∧ (k : Int) ≤ (cap : Int) := by omega
  exact ⟨fun _ h => (by cases h), by simp [execOp, hx, hy, hz, hq, Instr.sliceAt, run_underlying ht, Instr.slice, Instr.sliceBounds, run_sliceBound, hs, g1, g2, g3, dropAt]⟩
theorem rn_slice01 {b o len c : Nat} {m n : Int} (ht : P.underlying T = some (.slice E)) (hs : ∀ w, (sizeOf E).run P w = .ok size w) (hx : ev N ρ x = .slice (some ⟨b, o, none⟩) len c) (hy : ev N ρ y = .int .i64 m) (hz : ev N ρ z = .int .i64 n) (hm : m = ((0 : Nat) : Int)) (hn : n = ((1 : Nat) : Int)) (hc : 1 ≤ c) :
    Rn P N ⟨d, .slice T x (some y) (some z) none, t, p, a, g⟩ ρ w (.slice (some ⟨b, o, none⟩) 1 c) w := by
  have h := rn_sliceLH (d := d) (t := t) (p := p) (a := a) (g := g) (w := w) 0 1 ht hs hx hy hz hm hn (by decide) hc
  rw [drop_0] at h; exact h
theorem lx_clear1 {zs xs : List Value} {u : Value} {b o c : Nat} (hw : Want N lo ⟨d, .call { callee := .builtin .clear, args := #[x], argTypes := #[T] }, t, p, a, g⟩ ρ true) (ht : P.underlying T = some (.slice e)) (hz : ∀ w, (zeroValue e).run P w = .ok u w) (hu : u.cells = zs.toArray) (hzl : zs.length = size) (h1 : zs.all (fun u => u.oneCell') = true)
    (hx : ev N ρ x = .slice (some ⟨b, o, none⟩) 1 c) (hO : OwnS w e size (some ⟨b, o, none⟩) n cap xs) (hc : 1 ≤ cap)
    (k : ∀ w', Fr (· = b) w w' → OwnS w' e size (some ⟨b, o, none⟩) 0 cap [] → LX r P N ds lo K rest (up ρ d (.tuple #[])) w') :
    LX r P N ds lo K (⟨d, .call { callee := .builtin .clear, args := #[x], argTypes := #[T] }, t, p, a, g⟩ :: rest) ρ w := by
  obtain ⟨hlen, h⟩ := hO
  rcases h with ⟨h, _⟩ | ⟨g', o', cur, he, hB, hnc, hcm, hcl, htk⟩
  · cases h
  · injection he with he
    injection he with e1 e2
    subst e1; subst e2
    have hsz : size ≤ cap * size := by
      have := Nat.mul_le_mul_right size hc
      rwa [Nat.one_mul] at this
    have hzc : (Builtin.zeroCells u.cells 1).toList = zs := by
      rw [hu]
      apply List.ext_getElem
      · simp [Builtin.zeroCells]
      · intro i g1 g2
        have : i % zs.length = i := Nat.mod_eq_of_lt g2
        simp [Builtin.zeroCells, this, List.getElem?_eq_getElem g2]
    obtain ⟨w', hr, hB', hf⟩ := run_storeCells_blk (P := P) b e zs 0 cur o w hB (by simp only [Nat.add_zero, hzl]; omega) (fun v hv => List.all_eq_true.1 h1 v hv)
    refine lx_value hw (v := .tuple #[]) (w' := w') ⟨fun _ h => (by cases h), ?_⟩ (k w' hf ⟨by simp, .inr ⟨b, o, _, rfl, hB', Nat.zero_le _, hcm, ?_, by simp⟩⟩)
    · simp [execOp, resolve, invoke, builtin, hx, Builtin.clear_, run_underlying ht, hz, hzc, hr]
    · simp only [Nat.add_zero, List.length_append, List.length_take, List.length_drop, hzl]; omega
/-- a part of a block is stored -/
theorem do_setC {cs vs : List Value} {u : Value} {sT T' : TypeId} {m b o : Nat} (hs : ∀ w, (sizeOf sT).run P w = .ok m w) (hx : ev N ρ x = .pointer (some ⟨b, o, none⟩)) (hy : ev N ρ y = u) (hu : u.cells = vs.toArray) (hn : vs.length = m) (h1 : vs.all (fun u => u.oneCell') = true)
    (B : Blk w b cs T') (hl : o + m ≤ cs.length) : Do P N ⟨d, .store sT x y, t, p, a, g⟩ ρ w (fun v w' => Fr (· = b) w w' ∧ Blk w' b (cs.take o ++ vs ++ cs.drop (o + m)) T') := by
  subst hn
  obtain ⟨w', hr, hB, hf⟩ := run_storeCells_blk (P := P) b T' vs 0 cs o w B (by simp only [Nat.add_zero]; omega) (fun u hu => List.all_eq_true.1 h1 u hu)
  refine do_store (w' := w') ⟨fun _ h => (by cases h), ?_⟩ ⟨hf, by simpa using hB⟩
  simp [execOp, hx, hy, Instr.storeAt, Instr.sureAddr, storeVar, hs, hu, hr]
end eng
theorem en_one {w : World} {s sx : Option Addr} {c cx n : Nat} {x : Ent} {G : Nat → Prop} {us : List Value} (h : OwnS w 55 3 s n c us) (hu : us = enL x sx cx) (hx : VlS G w sx x.ports) : EnS (fun _ => True) w s [x] := by
  subst hu
  refine own_en (F := fun _ => True) (l := [x]) ⟨enL x sx cx, [], by simp, ⟨sx, cx, rfl, hx.wide (fun _ _ => trivial)⟩, rfl⟩ (Fr.refl no _) h (fun _ h => h) (fun _ _ => trivial)
/-- tokens that are right -/
def tokB (SS : Sto) (t : Tok) : Bool := decide (0 ≤ t.1 ∧ t.1 ≤ 399) && placeB SS t.2.1 && decide (0 ≤ t.2.2.1 ∧ t.2.2.1 ≤ portN (codeAt SS t.2.1) - 1 ∧ portN (codeAt SS t.2.1) ≤ 1000) && fitB t.2.2.2 && decide ((codeAt SS t.2.1).op ≠ 21)
structure TokB (SS : Sto) (t : Tok) : Prop where
  ctx : 0 ≤ t.1 ∧ t.1 ≤ 399
  plc : placeB SS t.2.1 = true
  port : 0 ≤ t.2.2.1 ∧ t.2.2.1 ≤ portN (codeAt SS t.2.1) - 1 ∧ portN (codeAt SS t.2.1) ≤ 1000
  fit : fitB t.2.2.2 = true
  na : (codeAt SS t.2.1).op ≠ 21
theorem tokB_parts {SS : Sto} {t : Tok} (h : tokB SS t = true) : TokB SS t := by
  unfold tokB at h
  simp only [Bool.and_eq_true, decide_eq_true_eq] at h
  exact ⟨h.1.1.1.1, h.1.1.1.2, h.1.1.2, h.1.2, h.2⟩
def atP (q : Ds) (x : Ent) : Bool := decide (x.ctx = q.1 ∧ x.at_ = q.2)
/-! ### Elements at work -/
abbrev elL (u0 u1 : Value) (rm : Nat) (s1 : Option Addr) (n1 c1 : Nat) (s2 : Option Addr) (n2 c2 : Nat) (u5 : Value) : List Value := [u0, u1, .int .i64 (rm : Nat), .slice s1 n1 c1, .slice s2 n2 c2, u5]
section el
variable {w : World} {b i p rm c1 c2 n1 n2 : Nat} {u0 u1 u5 : Value} {s1 s2 : Option Addr} {T : TypeId} {La Lb : List Ent}
theorem el_two (h : Blk w b (elL u0 u1 rm s1 La.length c1 s2 Lb.length c2 u5) T) (hi : i < 2) : w.cell? ⟨b, 3 + i, none⟩ = some (.slice (if i = 0 then s1 else s2) (if i = 0 then La else Lb).length (if i = 0 then c1 else c2)) := by
  have e : i = 0 ∨ i = 1 := by omega
  rcases e with rfl | rfl
  · exact h.cell 3 rfl
  · exact h.cell 4 rfl
theorem ptr_two {T : TypeId} (h : Blk w p [.pointer (some ⟨b, 3, none⟩), .pointer (some ⟨b, 4, none⟩)] T) (hi : i < 2) : w.cell? ⟨p, 0 + i * 1, none⟩ = some (.pointer (some ⟨b, 3 + i, none⟩)) := by
  have e : i = 0 ∨ i = 1 := by omega
  rcases e with rfl | rfl
  · exact h.cell 0 rfl
  · exact h.cell 1 rfl
theorem if_en {G : Nat → Prop} (h1 : EnS G w s1 La) (h2 : EnS G w s2 Lb) : EnS G w (if i = 0 then s1 else s2) (if i = 0 then La else Lb) := by split <;> assumption
end el
def FindR (b : Nat) (La Lb : List Ent) (q : Ent → Bool) (v : Value) : Prop :=
  (La.any q = false ∧ Lb.any q = false ∧ v = .tuple #[.pointer none, .int .i64 (-1)]) ∨
  ∃ (i j : Nat) (x : Ent), i < 2 ∧ (if i = 0 then La else Lb)[j]? = some x ∧ q x = true ∧ ((if i = 0 then La else Lb).take j).any q = false ∧ (∀ k, k < i → (if k = 0 then La else Lb).any q = false) ∧ v = .tuple #[.pointer (some ⟨b, 3 + i, none⟩), .int .i64 (j : Int)]
theorem find_none {b : Nat} {La Lb : List Ent} {q : Ent → Bool} {v : Value} (h : FindR b La Lb q v) (h1 : La.any q = false) (h2 : Lb.any q = false) : v = .tuple #[.pointer none, .int .i64 (-1)] := by
  rcases h with h | ⟨i, j, x, hi, hx, hq, _⟩
  · exact h.2.2
  · have e : i = 0 ∨ i = 1 := by omega
    rcases e with rfl | rfl
    · rw [if_pos rfl] at hx; rw [any_yes hx hq] at h1; cases h1
    · rw [if_neg (by decide)] at hx; rw [any_yes hx hq] at h2; cases h2
theorem find_one {b : Nat} {e1 : Ent} {Lb : List Ent} {q : Ent → Bool} {v : Value} (h : FindR b [e1] Lb q v) (h1 : q e1 = true) : v = .tuple #[.pointer (some ⟨b, 3, none⟩), .int .i64 (((0 : Nat) : Int))] := by
  rcases h with h | ⟨i, j, x, hi, hx, hq, h3, h4, h5⟩
  · have := h.1; simp [h1] at this
  · have e : i = 0 := by
      rcases Nat.eq_zero_or_pos i with e | e
      · exact e
      · have := h4 0 e; simp [h1] at this
    subst e
    rw [if_pos rfl] at hx
    cases j with
    | zero => exact h5
    | succ j => simp at hx
section find
variable {b i : Nat} {La Lb : List Ent} {q : Ent → Bool} {z : Int} (hno : ∀ k, k < i → (if k = 0 then La else Lb).any q = false)
include hno
theorem find_on (hz : IdxR q (if i = 0 then La else Lb) z) (hge : ¬ z ≥ 0) : ∀ k, k < i + 1 → (if k = 0 then La else Lb).any q = false := fun k hk => by
  by_cases h : k < i
  · exact hno k h
  · have e : k = i := by omega
    subst e
    have := hz.any
    rw [decide_eq_false hge] at this
    exact this.symm
theorem find_yes (hi : i < 2) (hz : IdxR q (if i = 0 then La else Lb) z) (hge : z ≥ 0) : FindR b La Lb q (.tuple #[.pointer (some ⟨b, 3 + i, none⟩), .int .i64 z]) := by
  rcases hz with ⟨h, _⟩ | ⟨j, x, rfl, hx, hq, h0⟩
  · omega
  · exact .inr ⟨i, j, x, hi, hx, hq, h0, hno, rfl⟩
theorem find_end (hi : 2 ≤ i) : FindR b La Lb q (.tuple #[.pointer none, .int .i64 (-1)]) := .inl ⟨by have := hno 0 (by omega); rwa [if_pos rfl] at this, by have := hno 1 (by omega); rwa [if_neg (by decide)] at this, rfl⟩
end find

/-! An element takes tokens. -/
theorem vl_blk2 {w : World} {b : Nat} {u v : Vl} {T : TypeId} (h : Blk w b [.int .u8 u.1, .int .i64 u.2, .int .u8 v.1, .int .i64 v.2] T) : VlS (fun _ => True) w (some ⟨b, 0, none⟩) [u, v] := fun i x hx => by
  match i, hx with
  | 0, hx =>
    simp at hx; subst hx
    exact ⟨b, 0, rfl, trivial, fun j z hz => by
      match j, hz with
      | 0, hz => simp [vlC] at hz; subst hz; exact h.cell 0 rfl
      | 1, hz => simp [vlC] at hz; subst hz; exact h.cell 1 rfl
      | j + 2, hz => simp [vlC] at hz⟩
  | 1, hx =>
    simp at hx; subst hx
    exact ⟨b, 0, rfl, trivial, fun j z hz => by
      match j, hz with
      | 0, hz => simp [vlC] at hz; subst hz; exact h.cell 2 rfl
      | 1, hz => simp [vlC] at hz; subst hz; exact h.cell 3 rfl
      | j + 2, hz => simp [vlC] at hz⟩
  | i + 2, hx => simp at hx
theorem vl_blkG {w : World} {b : Nat} {u v : Vl} {T : TypeId} (h : Blk w b [.int .u8 u.1, .int .i64 u.2, .int .u8 v.1, .int .i64 v.2] T) : VlS (fun k => k = b) w (some ⟨b, 0, none⟩) [u, v] := fun i x hx => by
  obtain ⟨b', o', h1, _, h3⟩ := vl_blk2 h i x hx
  injection h1 with h1; injection h1 with h1 h2
  subst h1; subst h2
  exact ⟨_, _, rfl, rfl, h3⟩
theorem en_oneG {w : World} {s sx : Option Addr} {c cx n : Nat} {x : Ent} {G H : Nat → Prop} {us : List Value} (h : OwnS w 55 3 s n c us) (hu : us = enL x sx cx) (hx : VlS G w sx x.ports) (hs : ∀ k, ob s k → H k) (hG : ∀ k, G k → H k) : EnS H w s [x] := by
  subst hu
  refine own_en (F := H) (l := [x]) ⟨enL x sx cx, [], by simp, ⟨sx, cx, rfl, hx.wide hG⟩, rfl⟩ (Fr.refl no _) h (fun _ h => h) hs
theorem en_cs {w : World} {b o : Nat} {s : Option Addr} {c : Nat} {x : Ent} {G : Nat → Prop} (h : Cs w b o (enL x s c)) (hv : VlS G w s x.ports) : EnS (fun _ => True) w (some ⟨b, o, none⟩) [x] := fun i y hy => by
  match i, hy with
  | 0, hy =>
    simp at hy; subst hy
    exact ⟨b, o, rfl, trivial, s, c, by simpa using h, hv.wide (fun _ _ => trivial)⟩
  | i + 1, hy => simp at hy
theorem en_csG {w : World} {b o : Nat} {s : Option Addr} {c : Nat} {x : Ent} {G H : Nat → Prop} (h : Cs w b o (enL x s c)) (hv : VlS G w s x.ports) (hb : H b) (hG : ∀ k, G k → H k) : EnS H w (some ⟨b, o, none⟩) [x] := fun i y hy => by
  match i, hy with
  | 0, hy =>
    simp at hy; subst hy
    exact ⟨b, o, rfl, hb, s, c, by simpa using h, hv.wide hG⟩
  | i + 1, hy => simp at hy
theorem blk_cs {w : World} {b : Nat} {l : List Value} {T : TypeId} (h : Blk w b l T) : Cs w b 0 l := fun j v hv => by simpa using h.cell j hv
theorem own_cs {w : World} {b o c cx : Nat} {x : Ent} {s : Option Addr} (h : OwnS w 55 3 (some ⟨b, o, none⟩) 1 c (enL x s cx)) : Cs w b (o + 0 * 3) (enL x s cx) := by
  obtain ⟨hlen, hh⟩ := h
  rcases hh with ⟨h, _⟩ | ⟨g', o', cur, he, hB, hnc, hcm, hcl, htk⟩
  · cases h
  · injection he with he
    injection he with e1 e2
    subst e1; subst e2
    intro j v hv
    refine hB.cell _ ?_
    rw [Nat.zero_mul, Nat.add_zero]
    rw [← htk, List.getElem?_take, List.getElem?_drop] at hv
    split at hv
    · exact hv
    · cases hv
theorem vl_fl {w : World} {b o n c i : Nat} {L : List Vl} {v : Vl} (h : OwnS w 48 2 (some ⟨b, o, none⟩) n c (L.flatMap vlC)) (hv : L[i]? = some v) : Fl vlC w b (o + i * 2) v := by
  obtain ⟨b', o', h1, _, h2⟩ := h.sl (F := fun _ => True) (by decide) rfl (fun _ _ => rfl) (fun _ _ => trivial) i v hv
  injection h1 with h1; injection h1 with h1 h3
  subst h1; subst h3; exact h2
theorem holes_2 {p v : Vl} (hp : p.1 ≠ 0) (hv : v.1 ≠ 0) : holesN [p, v] = 0 := by unfold holesN; simp [hp, hv]
theorem any_one {q : Ent → Bool} {e : Ent} (h : q e = false) : [e].any q = false := by simp [h]

theorem el_nil1 {w : World} {lo b c1 c2 : Nat} {s1 s2 : Option Addr} {us1 us2 : List Value} {Z1 Z2 : Nat → Prop} {Lb : List Ent} (h : ElO w lo b s1 c1 us1 Z1 s2 c2 us2 Z2 [] Lb) : OwnS w 55 3 s1 0 c1 [] := by
  have e : us1 = [] := h.h1.2.1
  have := h.o1
  rw [e] at this; exact this
theorem el_nil2 {w : World} {lo b c1 c2 : Nat} {s1 s2 : Option Addr} {us1 us2 : List Value} {Z1 Z2 : Nat → Prop} {La : List Ent} (h : ElO w lo b s1 c1 us1 Z1 s2 c2 us2 Z2 La []) : OwnS w 55 3 s2 0 c2 [] := by
  have e : us2 = [] := h.h2.2.1
  have := h.o2
  rw [e] at this; exact this
theorem own_some {w : World} {e : TypeId} {sz n c : Nat} {s : Option Addr} {xs : List Value} (h : OwnS w e sz s n c xs) (hn : 0 < n) : ∃ b o, s = some ⟨b, o, none⟩ := by
  rcases h.2 with ⟨_, h1, _⟩ | ⟨b, o, _, h1, _⟩
  · omega
  · exact ⟨b, o, h1⟩
theorem el_c {w : World} {lo be c1 c2 : Nat} {s1 s2 : Option Addr} {us1 us2 : List Value} {Z1 Z2 : Nat → Prop} {tc ta : Int} {p0 : Vl} {e2 : Ent} (h : ElO w lo be s1 c1 us1 Z1 s2 c2 us2 Z2 [⟨tc, ta, [p0, (0, 0)]⟩] [e2]) :
    ∃ (b1 o1 b4 o4 c4 b2 o2 : Nat) (s2x : Option Addr) (c2x : Nat), s1 = some ⟨b1, o1, none⟩ ∧ s2 = some ⟨b2, o2, none⟩ ∧ 1 ≤ c1 ∧ OwnS w 55 3 (some ⟨b1, o1, none⟩) 1 c1 (enL ⟨tc, ta, [p0, (0, 0)]⟩ (some ⟨b4, o4, none⟩) c4) ∧ OwnS w 48 2 (some ⟨b4, o4, none⟩) 2 c4 (([p0, (0, 0)] : List Vl).flatMap vlC) ∧
      Cs w b2 o2 (enL e2 s2x c2x) ∧ VlS Z2 w s2x e2.ports ∧ (∀ k, ob (some (⟨b1, o1, none⟩ : Addr)) k → lo ≤ k) ∧ (∀ k, ob (some (⟨b4, o4, none⟩ : Addr)) k → lo ≤ k) ∧ (∀ k, ob (some (⟨b1, o1, none⟩ : Addr)) k → k ≠ be) ∧ (∀ k, ob (some (⟨b4, o4, none⟩ : Addr)) k → k ≠ be) ∧
      (∀ k, ob (some (⟨b1, o1, none⟩ : Addr)) k → ob (some (⟨b4, o4, none⟩ : Addr)) k → False) ∧ ¬ (b2 = be ∨ ob (some (⟨b1, o1, none⟩ : Addr)) b2 ∨ ob (some (⟨b4, o4, none⟩ : Addr)) b2) ∧ ∀ k, Z2 k → ¬ (k = be ∨ ob (some (⟨b1, o1, none⟩ : Addr)) k ∨ ob (some (⟨b4, o4, none⟩ : Addr)) k) := by
  obtain ⟨b1, o1, rfl⟩ := own_some h.o1 (show 0 < 1 by decide)
  obtain ⟨b2, o2, rfl⟩ := own_some h.o2 (show 0 < 1 by decide)
  obtain ⟨a, r, hu1, ⟨s4, c4, ha, ho4, hz4⟩, hr⟩ := h.h1.2.1
  obtain ⟨a2, r2, hu2, ⟨s2x, c2x, ha2, ho2, hz2⟩, hr2⟩ := h.h2.2.1
  have hr : r = [] := hr
  have hr2 : r2 = [] := hr2
  subst hr; subst hr2; subst ha; subst ha2
  rw [List.append_nil] at hu1 hu2
  subst hu1; subst hu2
  obtain ⟨b4, o4, rfl⟩ := own_some ho4 (show 0 < 2 by decide)
  have hb2 : ob (some (⟨b2, o2, none⟩ : Addr)) b2 := ⟨o2, none, rfl⟩
  refine ⟨b1, o1, b4, o4, c4, b2, o2, s2x, c2x, rfl, rfl, own_cap h.o1, h.o1, ho4, ?_, ho2.sl (by decide) rfl (fun _ _ => rfl) hz2, h.lo1, fun k hk => h.lz1 k (hz4 k hk), h.n1, fun k hk => h.nz1 k (hz4 k hk), fun k hk hk2 => h.oz1 k (hz4 k hk2) hk, ?_, ?_⟩
  · have := own_cs h.o2
    rwa [Nat.zero_mul, Nat.add_zero] at this
  · rintro (e | e | e)
    · exact h.n2 b2 hb2 e
    · exact h.oo b2 e hb2
    · exact h.x2 b2 (hz4 b2 e) hb2
  · rintro k hk (e | e | e)
    · exact h.nz2 k hk e
    · exact h.x1 k hk e
    · exact h.zz k (hz4 k e) hk

/-! Instructions that are executed. -/
def intB (v : Vl) : Prop := v.1 = 1 ∧ -1000000000 ≤ v.2 ∧ v.2 ≤ 1000000000
def ltV (a b : Vl) : Vl := (2, if decide (a.2 < b.2) = true then 1 else 0)
theorem any_false {α : Type} (l : List α) : (l.any fun _ => false) = false := by induction l <;> simp_all
theorem idx_no {α : Type} {l : List α} {z : Int} (h : IdxR (fun _ => false) l z) : ¬ z ≥ 0 := by
  have := h.any
  rw [any_false] at this
  exact of_decide_eq_false this
def ltN : ByteArray := ⟨#[108, 116]⟩
theorem opsL_lt (bI bE bN : Nat) : Value.tuple #[(getL (opsL bI bE bN) ltN).getD op0, .bool (getL (opsL bI bE bN) ltN).isSome] = .tuple #[.agg #[.int .i64 2, .slice (some ⟨bI, 0, none⟩) 1 1, .func (.func 100) #[] #[]], .bool true] := by
  rw [opsL_get, show idS ltN = some 6 by decide]; rfl
/-- what is asked: the map -/
def askT : List (Int × Int) := [(10, 1), (11, 2), (12, 3), (13, 4), (20, 5), (21, 6), (22, 7), (23, 8)]
def askL : List (Int × Value) := askT.map fun e => (e.1, .int .u8 e.2)
theorem askL_4 : Value.tuple #[(getL askL 4).getD (.int .u8 0), .bool (getL askL 4).isSome] = .tuple #[.int .u8 0, .bool false] := by rfl
theorem askL_20 : Value.tuple #[(getL askL 20).getD (.int .u8 0), .bool (getL askL 20).isSome] = .tuple #[.int .u8 5, .bool true] := by rfl
/-- tokens of one output -/
def tkL (ctx : Int) (v : Vl) (ds : List Ds) : List Tok := ds.map fun d => (ctx, d.1, d.2, v)
theorem tkL_len (ctx : Int) (v : Vl) (ds : List Ds) : (tkL ctx v ds).length = ds.length := List.length_map _
theorem tkL_step {ctx : Int} {v : Vl} {ds : List Ds} {i : Nat} {d : Ds} (h : ds[i]? = some d) : (tkL ctx v (ds.take i)).flatMap tkC ++ [.int .i64 ctx, .int .i64 d.1, .int .i64 d.2, .int .u8 v.1, .int .i64 v.2] = (tkL ctx v (ds.take (i + 1))).flatMap tkC := by
  unfold tkL
  rw [List.take_add_one, h, List.map_append, List.flatMap_append]; rfl
/-- tokens that are sent: each fits -/
def sentB (SS : Sto) (t : Tok) : Bool := placeB SS t.2.1 && fitB t.2.2.2 && decide ((codeAt SS t.2.1).op ≠ 21)
theorem sentB_parts {SS : Sto} {t : Tok} (h : sentB SS t = true) : placeB SS t.2.1 = true ∧ fitB t.2.2.2 = true ∧ (codeAt SS t.2.1).op ≠ 21 := by
  unfold sentB at h
  simp only [Bool.and_eq_true, decide_eq_true_eq] at h
  exact ⟨h.1.1, h.1.2, h.2⟩
theorem vl_one_at {w : World} {G : Nat → Prop} {s : Option Addr} {v : Vl} (h : VlS G w s [v]) : ∃ b o, s = some ⟨b, o, none⟩ ∧ G b ∧ Fl vlC w b (o + 0 * 2) v := by
  obtain ⟨b, o, h1, h2, h3⟩ := h 0 v rfl
  exact ⟨b, o, h1, h2, h3⟩
theorem vl_blk1 {w : World} {b : Nat} {u : Vl} {T : TypeId} (h : Blk w b [.int .u8 u.1, .int .i64 u.2] T) : VlS (fun _ => True) w (some ⟨b, 0, none⟩) [u] := fun i x hx => by
  match i, hx with
  | 0, hx =>
    simp at hx; subst hx
    exact ⟨b, 0, rfl, trivial, fun j z hz => by
      match j, hz with
      | 0, hz => simp [vlC] at hz; subst hz; exact h.cell 0 rfl
      | 1, hz => simp [vlC] at hz; subst hz; exact h.cell 1 rfl
      | j + 2, hz => simp [vlC] at hz⟩
  | i + 1, hx => simp at hx
theorem ab_int {a b z : Vl} (ha : intB a) (hb : intB b) (h : z ∈ [a, b]) : intB z := by
  simp only [List.mem_cons, List.not_mem_nil, or_false] at h
  rcases h with rfl | rfl <;> assumption
def homeV (ctx at_ n : Int) : Value := if (1 ≤ n ∧ n ≤ 8) ∧ (0 ≤ ctx ∧ ctx ≤ 399) ∧ (0 ≤ at_ ∧ at_ ≤ 100000) then .tuple #[.int .i64 ((7 * ctx + at_) % n), .int .i64 0] else .tuple #[.int .i64 0, .int .i64 3]
theorem home_yes {ctx at_ n : Int} (h1 : 1 ≤ n ∧ n ≤ 8) (h2 : 0 ≤ ctx ∧ ctx ≤ 399) (h3 : 0 ≤ at_ ∧ at_ ≤ 100000) : Value.tuple #[.int .i64 ((7 * ctx + at_) % n), .int .i64 0] = homeV ctx at_ n := by unfold homeV; rw [if_pos ⟨h1, h2, h3⟩]
theorem home_no {ctx at_ n : Int} (h : ¬ ((1 ≤ n ∧ n ≤ 8) ∧ (0 ≤ ctx ∧ ctx ≤ 399) ∧ (0 ≤ at_ ∧ at_ ≤ 100000))) : Value.tuple #[.int .i64 0, .int .i64 3] = homeV ctx at_ n := by unfold homeV; rw [if_neg h]

/-! The example's store. -/
def QD (F : Nat → Prop) (w : World) (a : List Value) (l : List Ds) : Prop := ∃ s c, a = [.slice s l.length c] ∧ DsS F w s l
theorem HR.cons1 {α : Type} {Q : World → List Value → α → Prop} {w : World} {x : α} {l : List α} {v1 : Value} {r : List Value} (hq : Q w [v1] x) (h : HR Q w r l) : HR Q w (v1 :: r) (x :: l) := ⟨[v1], r, rfl, hq, h⟩
theorem HR.cons4 {α : Type} {Q : World → List Value → α → Prop} {w : World} {x : α} {l : List α} {v1 v2 v3 v4 : Value} {r : List Value} (hq : Q w [v1, v2, v3, v4] x) (h : HR Q w r l) : HR Q w (v1 :: v2 :: v3 :: v4 :: r) (x :: l) := ⟨[v1, v2, v3, v4], r, rfl, hq, h⟩
theorem HR.cons6 {α : Type} {Q : World → List Value → α → Prop} {w : World} {x : α} {l : List α} {v1 v2 v3 v4 v5 v6 : Value} {r : List Value} (hq : Q w [v1, v2, v3, v4, v5, v6] x) (h : HR Q w r l) : HR Q w (v1 :: v2 :: v3 :: v4 :: v5 :: v6 :: r) (x :: l) := ⟨[v1, v2, v3, v4, v5, v6], r, rfl, hq, h⟩
/-- elements in cells of our own -/
theorem HR.sl {α : Type} {sz : Nat} {Q : World → List Value → α → Prop} {w : World} {us : List Value} {l : List α} {F : Nat → Prop} {e : TypeId} {n cap : Nat} {s : Option Addr} {C : World → Nat → Nat → α → Prop} (h : HR Q w us l) (hln : ∀ a x, Q w a x → a.length = sz) (ho : OwnS w e sz s n cap us) (hsz : 0 < sz) (hC : ∀ b off a x, Q w a x → Cs w b off a → C w b off x) (hs : ∀ k, ob s k → F k) : Sl F w s sz l C := fun i x hi => by
  obtain ⟨a, h1, h2⟩ := h.at_ hln hi
  have hln := hln _ _ h1
  rcases ho.2 with ⟨_, h3, _⟩ | ⟨g, o, cur, rfl, hB, g1, _, g3, g4⟩
  · have := ho.1
    subst h3
    rw [Nat.zero_mul] at this
    obtain rfl := List.eq_nil_of_length_eq_zero this
    cases a with
    | nil => simp at hln; omega
    | cons v a => have := h2 0 v rfl; simp at this
  · refine ⟨g, o, rfl, hs g ⟨o, none, rfl⟩, hC _ _ _ _ h1 (fun j v hv => ?_)⟩
    have := h2 j v hv
    refine hB.cell _ ?_
    rw [← g4, List.getElem?_take, List.getElem?_drop] at this
    split at this
    · rw [Nat.add_assoc]; exact this
    · cases this
section ex
variable {w : World} {F : Nat → Prop}
theorem ds_1 {b : Nat} {a p : Int} (h : Blk w b [.int .i64 a, .int .i64 p] 75) (hF : F b) : DsS F w (some ⟨b, 0, none⟩) [(a, p)] :=
  (OwnS.full (n := 1) (size := 2) h rfl (by decide)).sl (l := [(a, p)]) (cells := dsC) (by decide) rfl (fun _ _ => rfl) (fun k hk => by have := ob_some hk; subst this; exact hF)
theorem ds_2 {b : Nat} {a p a2 p2 : Int} (h : Blk w b [.int .i64 a, .int .i64 p, .int .i64 a2, .int .i64 p2] 75) (hF : F b) : DsS F w (some ⟨b, 0, none⟩) [(a, p), (a2, p2)] :=
  (OwnS.full (n := 2) (size := 2) h rfl (by decide)).sl (l := [(a, p), (a2, p2)]) (cells := dsC) (by decide) rfl (fun _ _ => rfl) (fun k hk => by have := ob_some hk; subst this; exact hF)
theorem qd_ok {s : Option Addr} {l : List Ds} {c : Nat} (h : DsS F w s l) : QD F w [.slice s l.length c] l := ⟨s, c, rfl, h⟩
theorem dd_hr {us : List Value} {L : List (List Ds)} {n c : Nat} {s : Option Addr} (h : HR (QD F) w us L) (ho : OwnS w 76 1 s n c us) (hs : ∀ k, ob s k → F k) : DdS F w s L :=
  h.sl (sz := 1) (fun _ _ ⟨_, _, e, _⟩ => by rw [e]; rfl) ho (by decide) (fun b off a x ⟨s, c, e, hd⟩ hc => ⟨s, c, by subst e; exact hc 0 _ rfl, hd⟩) hs
theorem dd_1 {fa fb : Nat} {a p : Int} (h : Blk w fa [.slice (some ⟨fb, 0, none⟩) 1 1] 76) (h2 : Blk w fb [.int .i64 a, .int .i64 p] 75) (g1 : F fa) (g2 : F fb) : DdS F w (some ⟨fa, 0, none⟩) [[(a, p)]] :=
  dd_hr (HR.cons1 (qd_ok (ds_1 h2 g2)) rfl) (OwnS.full (n := 1) (size := 1) h rfl (by decide)) (fun k hk => by have := ob_some hk; subst this; exact g1)
theorem dd_2 {s s1 s2 : Option Addr} {c c1 c2 : Nat} {l1 l2 : List Ds} (ho : OwnS w 76 1 s 2 c [.slice s1 l1.length c1, .slice s2 l2.length c2]) (h1 : DsS F w s1 l1) (h2 : DsS F w s2 l2) (hs : ∀ k, ob s k → F k) : DdS F w s [l1, l2] :=
  dd_hr (HR.cons1 (qd_ok h1) (HR.cons1 (qd_ok h2) rfl)) ho hs
theorem in_hr {us : List Value} {l : List Ins} {n c : Nat} {s : Option Addr} (h : HR (QI F) w us l) (ho : OwnS w 73 4 s n c us) (hs : ∀ k, ob s k → F k) : InS F w s l :=
  h.sl (sz := 4) (fun _ _ ⟨_, _, e, _⟩ => by rw [e]; rfl) ho (by decide) (fun b off a x ⟨so, co, e, hd⟩ hc => ⟨so, co, by subst e; exact hc, hd⟩) hs
theorem so_hr {us : List Value} {l : List Slt} {n c : Nat} {s : Option Addr} (h : HR (QL F) w us l) (ho : OwnS w 78 6 s n c us) (hs : ∀ k, ob s k → F k) : SoS F w s l :=
  h.sl (sz := 6) (fun _ _ ⟨_, _, e, _⟩ => by rw [e]; rfl) ho (by decide) (fun b off a x ⟨so, co, e, hd⟩ hc => ⟨so, co, by subst e; exact hc, hd⟩) hs
end ex
def exS : Sto := ⟨[⟨⟨#[97, 98, 115]⟩, 0, 6, 1, false, [[(0, 0)], [(1, 0), (2, 1)]]⟩, ⟨⟨#[109, 97, 105, 110]⟩, 6, 3, 1, false, [[(6, 0)], [(7, 1)]]⟩],
  [⟨1, ⟨#[]⟩, 0, [[(1, 1)]]⟩, ⟨4, ltN, 0, [[(2, 0)]]⟩, ⟨5, ⟨#[]⟩, 0, [[(3, 0)], [(4, 1)]]⟩, ⟨4, ⟨#[110, 101, 103]⟩, 0, [[(4, 0)]]⟩, ⟨6, ⟨#[]⟩, 0, [[(5, 0)]]⟩, ⟨22, ⟨#[]⟩, 0, []⟩,
   ⟨20, ⟨#[]⟩, 0, [[(7, 0)], [(8, 0)]]⟩, ⟨21, ⟨#[]⟩, 1, []⟩, ⟨22, ⟨#[]⟩, 0, []⟩]⟩
theorem exS_ok : okS exS = true := by decide +kernel
section full
variable {P : Program} {N : Nat} {ρ : Nat → Value} {w : World} {T t e : TypeId} {x y : Operand} {d : Option Tmp} {p : String} {a : Array Edge} {g : Option (Nat × Bool)} {r : Option Nat} {ds : List Deferred} {lo rest : List Oper} {K : (Nat → Value) → World → Prop} {sx : Option Addr} {n m cx size : Nat}
/-- an append to a full block: all that was is as it was -/
theorem lx_appendF {z xs news : List Value} {b : Nat} (bytes : Nat) (hw : Want N lo ⟨d, .call { callee := .builtin .append, args := #[x, y], argTypes := #[T, T] }, t, p, a, g⟩ ρ true) (ht : P.underlying T = some (.slice e)) (hi : TI P e z size bytes) (hsz : 0 < size) (hzl : z.length = size) (hby : bytes ≤ 65536)
    (hx : ev N ρ x = .slice (some ⟨b, 0, none⟩) n n) (hy : ev N ρ y = .slice sx m cx) (B : Blk w b xs e) (hxl : xs.length = n * size) (h0 : 0 < m) (hsrc : Go.Eng.Src w size sx m news) (hbd : n + m ≤ 1073741824)
    (kk : ∀ (s' : Option Addr) (cap' : Nat) (w' : World), OwnS w' e size s' (n + m) cap' (xs ++ news) → Ext w w' → (∀ k, ob s' k → w.heap.size ≤ k) → LX r P N ds lo K rest (up ρ d (.slice s' (n + m) cap')) w') :
    LX r P N ds lo K (⟨d, .call { callee := .builtin .append, args := #[x, y], argTypes := #[T, T] }, t, p, a, g⟩ :: rest) ρ w := by
  obtain ⟨i, u, hi, hz, hzu, hs, hb⟩ := hi
  subst hs
  obtain ⟨hnl, hn1, hnc⟩ := hsrc
  have hlen : (xs ++ news).length = (n + m) * i.size := by rw [List.length_append, hxl, hnl, Nat.add_mul]
  have hprod : (n + m) * i.bytes ≤ 140737488355328 := by rw [hb]; exact Nat.le_trans (Nat.mul_le_mul hbd hby) (by decide)
  have hnl0 : 0 < news.length := by rw [hnl]; exact Nat.mul_pos h0 hsz
  obtain ⟨v0, hv0⟩ : ∃ v, news[0]? = some v := ⟨news[0], by simp [hnl0]⟩
  obtain ⟨bb, ox, rfl, _⟩ := hnc 0 v0 hv0
  have hnews : ∀ j v, news[j]? = some v → w.cell? ((⟨bb, ox, none⟩ : Addr).add j) = some v := fun j v hj => by
    obtain ⟨b', o', h1, h2⟩ := hnc j v hj
    injection h1 with h1; injection h1 with h1 h3; subst h1; subst h3
    rw [addr_add]; exact h2
  have holds : ∀ j v, xs[j]? = some v → w.cell? ((⟨b, 0, none⟩ : Addr).add j) = some v := fun j v hj => by
    rw [addr_add]
    exact B.cell _ (by simpa using hj)
  have hr := run_append_grow (P := P) (w := w) T t e i u ht hi hz ⟨b, 0, none⟩ n n xs hxl holds ⟨bb, ox, none⟩ m cx news hnl hnews (by omega) (by omega) (growslice_fits (by omega) hprod)
  have hge := grownCap_ge w (n + m) n e
  have hcm := grownCap_le_maxLen w (n + m) n e (by unfold maxLen; omega)
  refine lx_value hw (v := .slice (some ⟨w.heap.size, 0, none⟩) (n + m) (grownCap w (n + m) n e)) (w' := w.drew.alloc (.cells (xs.toArray ++ news.toArray ++ Builtin.zeroCells u.cells (grownCap w (n + m) n e - (n + m))) e)) ⟨fun _ h => (by cases h), by simp [execOp, resolve, invoke, builtin, hx, hy, hr]⟩ (kk _ _ _ ⟨hlen, .inr ⟨w.heap.size, 0, _, rfl, Blk.alloc w.drew _ e, hge, hcm, ?_, ?_⟩⟩ ((ext_drew w).trans' (ext_alloc _ _)) (fun k hk => by have := ob_some hk; omega))
  · simp only [Array.length_toList, Array.size_append, List.size_toArray, size_zeroCells, hzu, hzl, hxl, hnl, ← Nat.add_mul]
    refine Nat.le_of_eq ((Nat.zero_add _).trans ?_)
    congr 1
    omega
  · simp only [Array.toList_append, List.append_assoc, List.drop_zero]
    rw [← List.append_assoc, ← hlen]
    exact List.take_left
end full

/-! The example's calls. -/
def partAt : Value → Nat → Value
  | .tuple a, i => (a.toList[i]?).getD undef
  | .agg a, i => (a.toList[i]?).getD undef
  | _, _ => undef
section lts
variable {w : World} {F : Nat → Prop} {s : Option Addr}
theorem in_lt {l : List Ins} (h : InS F w s l) : InS (fun k => F k ∧ k < w.heap.size) w s l := fun i x hx => by
  obtain ⟨b, o, h1, h2, so, co, h3, h4⟩ := h i x hx
  exact ⟨b, o, h1, ⟨h2, cell_lt (h3 0 _ rfl)⟩, so, co, h3, dd_lt h4⟩
theorem so_lt {l : List Slt} (h : SoS F w s l) : SoS (fun k => F k ∧ k < w.heap.size) w s l := fun i x hx => by
  obtain ⟨b, o, h1, h2, so, co, h3, h4⟩ := h i x hx
  exact ⟨b, o, h1, ⟨h2, cell_lt (h3 0 _ rfl)⟩, so, co, h3, dd_lt h4⟩
theorem str_lt {SS : Sto} {sa sb : Option Addr} {ca cb : Nat} (h : StR F w SS sa ca sb cb) : StR (fun k => F k ∧ k < w.heap.size) w SS sa ca sb cb := ⟨so_lt h.slots, in_lt h.code, h.room⟩
theorem tk_blk1 {b : Nat} {t : Tok} (h : Blk w b (tkC t) 51) : TkS (fun _ => True) w (some ⟨b, 0, none⟩) [t] :=
  (OwnS.full (n := 1) (size := 5) h rfl (by decide)).sl (l := [t]) (cells := tkC) (by decide) (by simp) (fun _ _ => rfl) (fun _ _ => trivial)
theorem tk_blk2 {b : Nat} {t u : Tok} (h : Blk w b (tkC t ++ tkC u) 51) : TkS (fun _ => True) w (some ⟨b, 0, none⟩) [t, u] :=
  (OwnS.full (n := 2) (size := 5) h rfl (by decide)).sl (l := [t, u]) (cells := tkC) (by decide) (by simp) (fun _ _ => rfl) (fun _ _ => trivial)
end lts
theorem exOk : OkS exS := okS_parts exS_ok
theorem tok1 : TokB exS (1, 1, 0, (1, 3)) := tokB_parts (by decide +kernel)
theorem tok2 : TokB exS (2, 1, 1, (1, 4)) := tokB_parts (by decide +kernel)
theorem tok3 : TokB exS (1, 1, 1, (1, 0)) := tokB_parts (by decide +kernel)
theorem exp2 : portN (codeAt exS 1) = 2 := by decide +kernel
theorem exn6 : (codeAt exS 1).op ≠ 6 := by decide +kernel
theorem exn66 : (codeAt exS 6).op ≠ 6 := by decide +kernel
theorem exr1 : RightE exS 1 [] [] := rightE_parts (by decide +kernel)
theorem exr2 : RightE exS 1 [⟨1, 1, [(1, 3), (0, 0)]⟩] [] := rightE_parts (by decide +kernel)
theorem exr3 : RightE exS 1 [⟨1, 1, [(1, 3), (0, 0)]⟩] [⟨2, 1, [(0, 0), (1, 4)]⟩] := rightE_parts (by decide +kernel)
theorem exca1 : codeAt exS 1 = ⟨4, ltN, 0, [[(2, 0)]]⟩ := by decide +kernel
theorem exca6 : codeAt exS 6 = ⟨20, ⟨#[]⟩, 0, [[(7, 0)], [(8, 0)]]⟩ := by decide +kernel
theorem expl1 : placeB exS 1 = true := by decide +kernel
theorem expl2 : placeB exS 2 = true := by decide +kernel
theorem expl6 : placeB exS 6 = true := by decide +kernel
theorem exops1 : OpsOk (codeAt exS 1) [(1, 3), (1, 0)] := opsOk_parts (by decide +kernel)
theorem exops6 : OpsOk (codeAt exS 6) [(3, 0)] := opsOk_parts (by decide +kernel)
theorem exq1 : atP (2, 1) ⟨1, 1, [(1, 3), (0, 0)]⟩ = false := by decide
theorem exsent : (tkL 5 (1, 9) [(1, 0), (2, 1)]).all (sentB exS) = true := by decide +kernel
theorem exp22 : portN (codeAt exS 2) = 2 := by decide +kernel
theorem exo22 : (((codeAt exS 2).outs.length : Nat) : Int) = 2 := by decide +kernel
theorem hv348 : homeV 3 4 8 = .tuple #[.int .i64 1, .int .i64 0] := by unfold homeV; rw [if_pos (by decide)]; rfl
theorem int3 : intB (1, 3) := by unfold intB; decide
theorem int0 : intB (1, 0) := by unfold intB; decide
def hNV (c a n : Int) : Int := if (1 ≤ n ∧ n ≤ 8) ∧ (0 ≤ c ∧ c ≤ 399) ∧ (0 ≤ a ∧ a ≤ 100000) then (7 * c + a) % n else 0
def hEV (c a n : Int) : Int := if (1 ≤ n ∧ n ≤ 8) ∧ (0 ≤ c ∧ c ≤ 399) ∧ (0 ≤ a ∧ a ≤ 100000) then 0 else 3
theorem homeV_eq (c a n : Int) : homeV c a n = .tuple #[.int .i64 (hNV c a n), .int .i64 (hEV c a n)] := by
  unfold homeV hNV hEV
  split <;> rfl

end Go.Proofs.YtgnnegfnpgnbbaaGreatDoor

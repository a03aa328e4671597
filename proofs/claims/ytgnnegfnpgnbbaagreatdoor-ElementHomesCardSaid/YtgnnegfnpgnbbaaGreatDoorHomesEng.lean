/- The engine: what each kind of operation does, a lemma a kind; frames are functions; nothing unfolds by itself. No program stands here. -/
import Derived.Test.YtgnnegfnpgnbbaaGreatDoorHomesMix
import Derived.WalkKit
import Derived.WalkSpells
import Derived.WalkLawsBesides
import Derived.RangeFuncIn
import Derived.RangeFuncLeaves
import Derived.TacticsIn
set_option linter.unusedVariables false
set_option linter.unusedSimpArgs false
namespace Go.Eng
open Go Go.RowKit Go.Mix

/-! ### Worlds -/
def no : Nat → Prop := fun _ => False
/-- Nothing that was there has turned. -/
abbrev Ext (w w' : World) : Prop := Fr no w w'
theorem Fr.refl (S : Nat → Prop) (w : World) : Fr S w w := ⟨rfl, rfl, rfl, Nat.le_refl _, fun _ _ _ => rfl⟩
theorem Fr.trans {S S' : Nat → Prop} {a b c : World} (h : Fr S a b) (k : Fr S' b c) (hs : ∀ i, i < a.heap.size → S' i → S i) : Fr S a c :=
  ⟨k.os.trans h.os, k.tape.trans h.tape, k.output.trans h.output, Nat.le_trans h.size k.size, fun i hi hn =>
    (k.block i (Nat.lt_of_lt_of_le hi h.size) (fun hk => hn (hs i hi hk))).trans (h.block i hi hn)⟩
theorem Fr.mono {S S' : Nat → Prop} {w w' : World} (h : Fr S w w') (hs : ∀ i, i < w.heap.size → S i → S' i) : Fr S' w w' :=
  ⟨h.os, h.tape, h.output, h.size, fun i hi hn => h.block i hi (fun hk => hn (hs i hi hk))⟩
theorem Ext.fr {S : Nat → Prop} {w w' : World} (h : Ext w w') : Fr S w w' := h.mono fun _ _ hk => hk.elim
/-- on by a step that turns nothing -/
theorem Fr.ext {S : Nat → Prop} {a b c : World} (h : Fr S a b) (k : Ext b c) : Fr S a c := h.trans k fun _ _ hk => hk.elim
/-- on by a step that turns new blocks alone -/
theorem Fr.new {S S' : Nat → Prop} {a b c : World} (h : Fr S a b) (k : Fr S' b c) (hs : ∀ i, S' i → a.heap.size ≤ i) : Fr S a c :=
  h.trans k fun i hi hk => absurd (hs i hk) (by omega)
theorem Ext.trans' {a b c : World} (h : Ext a b) (k : Ext b c) : Ext a c := Fr.ext h k
theorem Fr.trans' {a b c : World} (h : Fr no a b) (k : Fr no b c) : Fr no a c := Fr.ext h k
theorem Ext.below {w w' : World} (h : Ext w w') : Below w.heap.size w w' := ⟨h.os, h.tape, h.output, h.size, fun k hk => h.block k hk (fun hn => hn)⟩
theorem Fr.cell {S : Nat → Prop} {w w' : World} (h : Fr S w w') {p : Addr} (hp : ¬ S p.block) {v : Value} (hv : w.cell? p = some v) : w'.cell? p = some v :=
  (World.cell?_of_block (h.block p.block (World.block_lt_of_cell? w p hv) hp)).trans hv
theorem ext_alloc (w : World) (o : Obj) : Ext w (w.alloc o) := ⟨rfl, rfl, rfl, by simp, fun k hk _ => Below.heap_alloc w o k hk⟩
theorem ext_drew (w : World) : Ext w w.drew := ⟨rfl, rfl, rfl, Nat.le_refl _, fun _ _ _ => rfl⟩
theorem ext_drawn (w : World) : Ext w { w with drawn := w.drawn + 1 } := ext_drew w

/-- Block b is a row of cells of our own making. -/
def Blk (w : World) (b : Nat) (cs : List Value) (T : TypeId) : Prop := w.heap[b]? = some (.cells cs.toArray T (0, 0))
theorem Blk.lt {w : World} {b : Nat} {cs : List Value} {T : TypeId} (h : Blk w b cs T) : b < w.heap.size := (Array.getElem?_eq_some_iff.1 h).1
theorem Blk.fr {S : Nat → Prop} {w w' : World} {b : Nat} {cs : List Value} {T : TypeId} (h : Blk w b cs T) (k : Fr S w w') (hs : ¬ S b) : Blk w' b cs T :=
  (k.block b h.lt hs).trans h
theorem Blk.ext {w w' : World} {b : Nat} {cs : List Value} {T : TypeId} (h : Blk w b cs T) (k : Ext w w') : Blk w' b cs T := h.fr k (fun hn => hn)
theorem Blk.cell {w : World} {b : Nat} {cs : List Value} {T : TypeId} (h : Blk w b cs T) (i : Nat) {v : Value} (hv : cs[i]? = some v) : w.cell? ⟨b, i, none⟩ = some v := by
  rw [cell_of_row w b i cs.toArray T (0, 0) h, List.getElem?_toArray]; exact hv
theorem Blk.frozen {w : World} {b : Nat} {cs : List Value} {T : TypeId} (h : Blk w b cs T) (i : Nat) : w.frozen? ⟨b, i, none⟩ = false := frozen_of_row w b i _ T h
theorem Blk.alloc (w : World) (cs : Array Value) (T : TypeId) : Blk (w.alloc (.cells cs T)) w.heap.size cs.toList T := by
  unfold Blk; rw [heap_alloc_new]
theorem Blk.set {w : World} {b : Nat} {cs : List Value} {T : TypeId} (h : Blk w b cs T) (i : Nat) (v : Value) : Blk (w.setCell ⟨b, i, none⟩ v) b (cs.set i v) T := by
  unfold Blk at *
  rw [heap_setCell_same w b i cs.toArray T v h]; simp
theorem fr_setCell (w : World) (b i : Nat) (v : Value) : Fr (· = b) w (w.setCell ⟨b, i, none⟩ v) :=
  ⟨rfl, rfl, rfl, by simp, fun k _ hk => heap_setCell_other w _ k v (fun e => hk e)⟩

/-! ### Frames -/
def up (ρ : Nat → Value) (d : Option Tmp) (v : Value) : Nat → Value :=
  match d with
  | some d => fun k => if k = d then v else ρ k
  | none => ρ
def mk (N : Nat) (ρ : Nat → Value) (ds : List Deferred) : Act := { tmps := Array.ofFn (n := N) fun i => ρ i.val, defers := ds }
def ev (N : Nat) (ρ : Nat → Value) : Operand → Value
  | .tmp k => if k < N then ρ k else undef
  | .const v => v
  | .global g => .pointer (some ⟨g, 0, none⟩)
  | .func f => .func (.func f) #[] #[]
theorem mk_getD (N : Nat) (ρ : Nat → Value) (ds : List Deferred) (k : Nat) : (mk N ρ ds).tmps.getD k undef = if k < N then ρ k else undef := by
  unfold mk
  by_cases h : k < N
  · simp [h]
  · simp [h]
theorem mk_get? (N : Nat) (ρ : Nat → Value) (ds : List Deferred) (k : Nat) (h : k < N) : (mk N ρ ds).tmps[k]? = some (ρ k) := by
  unfold mk; simp [h]
theorem mk_eval (N : Nat) (ρ : Nat → Value) (ds : List Deferred) : (mk N ρ ds).eval = ev N ρ := by
  funext x
  cases x with
  | tmp k => exact mk_getD N ρ ds k
  | _ => rfl
theorem mk_put (N : Nat) (ρ : Nat → Value) (ds : List Deferred) (d : Option Tmp) (v : Value) : (mk N ρ ds).put d v = mk N (up ρ d v) ds := by
  cases d with
  | none => rfl
  | some d =>
    unfold mk Act.put up
    simp only [Act.mk.injEq, and_true]
    apply Array.ext
    · rw [Array.size_setIfInBounds, Array.size_ofFn, Array.size_ofFn]
    · intro i h1 h2
      rw [Array.size_setIfInBounds, Array.size_ofFn] at h1
      rw [Array.getElem_setIfInBounds (by simpa using h1)]
      simp only [Array.getElem_ofFn]
      by_cases h : d = i
      · subst h; simp
      · rw [if_neg h, if_neg (fun e => h e.symm)]
def argsF (args : List Value) : Nat → Value := fun k => match args.drop k with | v :: _ => v | [] => undef
theorem mk_args (N : Nat) (args : List Value) (h : args.length ≤ N) : mk N (argsF args) [] = { tmps := args.toArray ++ Array.replicate (N - args.toArray.size) undef, defers := [] } := by
  unfold mk
  simp only [Act.mk.injEq, and_true]
  apply Array.ext
  · simp; omega
  · intro i h1 h2
    simp only [Array.size_ofFn] at h1
    simp only [Array.getElem_ofFn, Array.getElem_append]
    unfold argsF
    rcases Nat.lt_or_ge i args.length with hi | hi
    · rw [List.drop_eq_getElem_cons hi, dif_pos (by simpa using hi)]
      rfl
    · rw [List.drop_eq_nil_of_le hi, dif_neg (by simpa using hi)]
      simp
/-- the slots that a loop's body does not write -/
def Agree (W : List Nat) (ρ ρ' : Nat → Value) : Prop := ∀ k, k ∉ W → ρ k = ρ' k
theorem Agree.refl (W : List Nat) (ρ : Nat → Value) : Agree W ρ ρ := fun _ _ => rfl
theorem Agree.up {W : List Nat} {ρ ρ' : Nat → Value} (h : Agree W ρ ρ') {d : Nat} (hd : W.contains d = true) (v : Value) : Agree W (up ρ (some d) v) ρ' := fun k hk => by
  have : k ≠ d := fun e => hk (by subst e; simpa using hd)
  simp only [Eng.up, if_neg this]; exact h k hk
theorem Agree.none {W : List Nat} {ρ ρ' : Nat → Value} (h : Agree W ρ ρ') (v : Value) : Agree W (Eng.up ρ none v) ρ' := h
theorem Agree.loop {W W2 : List Nat} {ρ ρ' ρ'' : Nat → Value} (h : Agree W ρ ρ') (h2 : Agree W2 ρ'' ρ) (hs : W2.all (fun k => W.contains k) = true) : Agree W ρ'' ρ' := fun k hk =>
  (h2 k (fun hm => hk (List.contains_iff_mem.1 (List.all_eq_true.1 hs k hm)))).trans (h k hk)
theorem Agree.at {W : List Nat} {ρ ρ' : Nat → Value} (h : Agree W ρ ρ') (k : Nat) (hk : W.contains k = false) {v : Value} (hv : ρ' k = v) : ρ k = v :=
  (h k (fun hm => by simp at hk; exact hk hm)).trans hv

/-! ### Operations -/
variable {P : Program} {N : Nat} {o : Oper} {ρ : Nat → Value} {w w' : World} {v : Value} {r : Option Nat}
abbrev FR (r : Option Nat) : Fence := { fn := fun _ => True, depth := none, alive := false, round := r }
/-- The operation yields v in the world w'. -/
structure Rn (P : Program) (N : Nat) (o : Oper) (ρ : Nat → Value) (w : World) (v : Value) (w' : World) : Prop where
  nd : ∀ c, o.op ≠ .defer c
  run : (execOp (ev N ρ) o).run P w = .ok (.value v) w'
/-- It yields nothing (a store). -/
structure Sk (P : Program) (N : Nat) (o : Oper) (ρ : Nat → Value) (w : World) (w' : World) : Prop where
  nd : ∀ c, o.op ≠ .defer c
  run : (execOp (ev N ρ) o).run P w = .ok .skip w'
/-- It calls a function. -/
structure Ent (P : Program) (N : Nat) (o : Oper) (ρ : Nat → Value) (f : FuncId) (args : List Value) : Prop where
  nd : ∀ c, o.op ≠ .defer c
  run : ∀ w, (execOp (ev N ρ) o).run P w = .ok (.enter f args.toArray) w
/-- A function's contract. -/
structure CT (P : Program) (f : FuncId) (args : List Value) (w : World) (S : Nat → Prop) (R : Value → World → Prop) : Prop where
  out : CallsIn (FR none) 0 P f args.toArray w (fun e w' => ∃ v, e = .returned v ∧ Fr S w w' ∧ R v w')
theorem CT.mono {f : FuncId} {args : List Value} {S S' : Nat → Prop} {R R' : Value → World → Prop} (h : CT P f args w S R) (hs : ∀ i, i < w.heap.size → S i → S' i) (hr : ∀ v w', Fr S w w' → R v w' → R' v w') : CT P f args w S' R' :=
  ⟨CallsIn.mono h.out fun _ _ ⟨v, he, hf, hR⟩ => ⟨v, he, hf.mono hs, hr _ _ hf hR⟩⟩
theorem CT.calls {f : FuncId} {args : List Value} {S : Nat → Prop} {R : Value → World → Prop} (h : CT P f args w S R) : Calls P f args.toArray w (fun e w' => ∃ v, e = .returned v ∧ Fr S w w' ∧ R v w') :=
  callsIn_wide.1 h.out

/-- A list of operations, in the text's order. -/
structure LX (r : Option Nat) (P : Program) (N : Nat) (ds : List Deferred) (lo : List Oper) (K : (Nat → Value) → World → Prop) (l : List Oper) (ρ : Nat → Value) (w : World) : Prop where
  out : wpListIn (FR r) 0 P lo.toArray (fun e a w => e = .normal ∧ ∃ ρ, a = mk N ρ ds ∧ K ρ w) l (mk N ρ ds) w
variable {ds : List Deferred} {lo rest : List Oper} {K : (Nat → Value) → World → Prop}

theorem lx_nil (h : K ρ w) : LX r P N ds lo K [] ρ w := ⟨by unfold wpListIn; exact ⟨rfl, ρ, rfl, h⟩⟩
def gdst (l : List Oper) (j : Nat) : Option Tmp := match l.drop j with | o :: _ => o.dst | [] => none
theorem gdst_eq (l : List Oper) (j : Nat) : (l.toArray[j]?).bind (·.dst) = gdst l j := by
  unfold gdst
  rcases Nat.lt_or_ge j l.length with h | h
  · rw [List.drop_eq_getElem_cons h]; simp [h]
  · rw [List.drop_eq_nil_of_le h]; simp [List.getElem?_eq_none h]
/-- The operation is carried out; it is passed over. -/
structure Want (N : Nat) (lo : List Oper) (o : Oper) (ρ : Nat → Value) (b : Bool) : Prop where
  out : ∀ ds, Region.wanted o (yielded lo.toArray (mk N ρ ds).tmps) = b
theorem want (hg : o.guard = none) : Want N lo o ρ true := ⟨fun ds => by simp [Region.wanted, hg]⟩
theorem want_if {j d : Nat} {x y : Bool} (hg : o.guard = some (j, x)) (hd : gdst lo j = some d) (hN : d < N) (hv : ρ d = .bool y) : Want N lo o ρ (y == x) := ⟨fun ds => by
  simp only [Region.wanted, hg, yielded, gdst_eq, hd, Option.bind_some, mk_get? N ρ ds d hN, hv]
  cases x <;> cases y <;> rfl⟩
theorem lx_value (hw : Want N lo o ρ true) (h : Rn P N o ρ w v w') (k : LX r P N ds lo K rest (up ρ o.dst v) w') : LX r P N ds lo K (o :: rest) ρ w := ⟨by
  unfold wpListIn
  rw [if_pos (hw.out ds)]
  refine ⟨fun _ _ => trivial, ?_⟩
  rw [Oper.semAt_eq _ _ _ h.nd, mk_eval, h.run]
  simp only [Oper.uponIn, mk_put]
  exact k.out⟩
theorem lx_store (hw : Want N lo o ρ true) (h : Sk P N o ρ w w') (k : LX r P N ds lo K rest (up ρ o.dst undef) w') : LX r P N ds lo K (o :: rest) ρ w := ⟨by
  unfold wpListIn
  rw [if_pos (hw.out ds)]
  refine ⟨fun _ _ => trivial, ?_⟩
  rw [Oper.semAt_eq _ _ _ h.nd, mk_eval, h.run]
  simp only [Oper.uponIn, mk_put]
  exact k.out⟩
theorem lx_skip (hw : Want N lo o ρ false) (k : LX r P N ds lo K rest (up ρ o.dst undef) w) : LX r P N ds lo K (o :: rest) ρ w := ⟨by
  unfold wpListIn
  rw [if_neg (by rw [hw.out ds]; exact Bool.false_ne_true), mk_put]
  exact ⟨fun _ _ => trivial, k.out⟩⟩
theorem lx_call {f : FuncId} {args : List Value} {S : Nat → Prop} {R : Value → World → Prop} (hw : Want N lo o ρ true) (he : Ent P N o ρ f args) (hc : CT P f args w S R)
    (k : ∀ v w', Fr S w w' → R v w' → LX r P N ds lo K rest (up ρ o.dst v) w') : LX r P N ds lo K (o :: rest) ρ w := ⟨by
  unfold wpListIn
  rw [if_pos (hw.out ds)]
  refine ⟨fun _ _ => trivial, ?_⟩
  rw [Oper.semAt_eq _ _ _ he.nd, mk_eval, he.run]
  simp only [Oper.uponIn, mk_put]
  exact ⟨fun h => by simp at h, CallsIn.mono hc.out fun e w'' ⟨v, he, hf, hR⟩ => by subst he; exact (k v w'' hf hR).out⟩⟩
/-- A truth value that is not known: two ways. -/
theorem lx_split {b : Bool} {d : Option Tmp} {l : List Oper} (h1 : b = true → LX r P N ds lo K l (up ρ d (.bool true)) w) (h2 : b = false → LX r P N ds lo K l (up ρ d (.bool false)) w) : LX r P N ds lo K l (up ρ d (.bool b)) w := by
  cases b
  · exact h2 rfl
  · exact h1 rfl

/-! ### A region that draws -/
structure MX (r : Option Nat) (P : Program) (N : Nat) (ds : List Deferred) (lo : List Oper) (Ef : Nat → World → World → Prop) (Cl : Nat → World → Prop) (Fin : World → Prop) (X : Nat → Prop) (Sp : Nat → Loud) (K : (Nat → Value) → World → Prop) (tl : List Oper)
    (k : Nat) (l : List Oper) (ρ : Nat → Value) (Γ : Facts) : Prop where
  out : (∀ j, j < l.length → lo[k + j]? = l[j]?) →
    Mix.Walk (FR r) P lo.toArray Ef Cl Fin X Sp (fun a w => wpListIn (FR r) 0 P lo.toArray (fun e a w => e = .normal ∧ ∃ ρ, a = mk N ρ ds ∧ K ρ w) tl a w) (List.range' k l.length) (mk N ρ ds) Γ
section mx
variable {Ef : Nat → World → World → Prop} {Cl : Nat → World → Prop} {Fin : World → Prop} {X : Nat → Prop} {Sp : Nat → Loud} {tl : List Oper} {k : Nat} {Γ : Facts}
theorem mx_nil (h : ∀ w, Fin w → Hold Γ w → Sep X Γ w → LX r P N ds lo K tl ρ w) : MX r P N ds lo Ef Cl Fin X Sp K tl k [] ρ Γ :=
  ⟨fun _ => by simp only [List.length_nil, List.range'_zero]; exact fun w hw hf hS => (h w hw hf hS).out⟩
theorem mx_open {l : List Oper} (hl : ∀ j, j < (o :: l).length → lo[k + j]? = (o :: l)[j]?) : lo.toArray[k]? = some o ∧ ∀ j, j < l.length → lo[k + 1 + j]? = l[j]? := by
  refine ⟨by have := hl 0 (by simp); simpa using this, fun j hj => ?_⟩
  have := hl (j + 1) (by simpa using hj)
  rw [show k + 1 + j = k + (j + 1) by omega]
  simpa using this
/-- An operation that yields v in every world that can come, and turns nothing. -/
theorem mx_calm (hs : Sp k = .none) (hw : Want N lo o ρ true) (h : ∀ w, Cl k w → For lo.toArray o Γ w → Rn P N o ρ w v w) (g : MX r P N ds lo Ef Cl Fin X Sp K tl (k + 1) rest (up ρ o.dst v) Γ) : MX r P N ds lo Ef Cl Fin X Sp K tl k (o :: rest) ρ Γ :=
  ⟨fun hl => by
    obtain ⟨h1, h2⟩ := mx_open hl
    rw [List.length_cons, List.range'_succ]
    unfold Mix.Walk
    simp only [h1, hw.out ds, if_true, hs]
    refine ⟨v, fun w hc => ?_, by rw [mk_put]; exact g.out h2⟩
    have h3 := h w hc.1 hc.2
    exact ⟨h3.nd, by rw [mk_eval]; exact h3.run⟩⟩
theorem mx_skip (hw : Want N lo o ρ false) (g : MX r P N ds lo Ef Cl Fin X Sp K tl (k + 1) rest (up ρ o.dst undef) Γ) : MX r P N ds lo Ef Cl Fin X Sp K tl k (o :: rest) ρ Γ :=
  ⟨fun hl => by
    obtain ⟨h1, h2⟩ := mx_open hl
    rw [List.length_cons, List.range'_succ]
    unfold Mix.Walk
    simp only [h1, hw.out ds, if_false, Bool.false_eq_true]
    rw [mk_put]; exact g.out h2⟩
/-- What an operation does, as the walk over a drawn region asks it. -/
structure Do (P : Program) (N : Nat) (o : Oper) (ρ : Nat → Value) (w : World) (G : Value → World → Prop) : Prop where
  out : ∀ r ds, Mix.Does (FR r) P o (mk N ρ ds) w G
theorem Do.mono {G G' : Value → World → Prop} (h : Do P N o ρ w G) (hg : ∀ v w', G v w' → G' v w') : Do P N o ρ w G' := ⟨fun r ds => ⟨(h.out r ds).1, (h.out r ds).2.mono hg⟩⟩
theorem do_value {G : Value → World → Prop} (h : Rn P N o ρ w v w') (hg : G v w') : Do P N o ρ w G := ⟨fun r ds => ⟨h.nd, by rw [mk_eval, h.run]; exact hg⟩⟩
theorem do_store {G : Value → World → Prop} (h : Sk P N o ρ w w') (hg : G undef w') : Do P N o ρ w G := ⟨fun r ds => ⟨h.nd, by rw [mk_eval, h.run]; exact hg⟩⟩
theorem do_call {f : FuncId} {args : List Value} {S : Nat → Prop} {G Q : Value → World → Prop} (he : Ent P N o ρ f args) (hc : CT P f args w S Q) (hg : ∀ v w', Fr S w w' → Q v w' → G v w') : Do P N o ρ w G :=
  ⟨fun r ds => ⟨he.nd, by rw [mk_eval, he.run]; exact CallsIn.mono hc.out fun e w'' ⟨v, he, hf, hR⟩ => ⟨v, he, hg v w'' hf hR⟩⟩⟩
theorem mx_val {c : Value} (hs : Sp k = .val c) (hw : Want N lo o ρ true) (h : ∀ w, Cl k w → For lo.toArray o Γ w → Do P N o ρ w (fun v w' => Ef k w w' ∧ v = c)) (g : MX r P N ds lo Ef Cl Fin X Sp K tl (k + 1) rest (up ρ o.dst c) Γ) : MX r P N ds lo Ef Cl Fin X Sp K tl k (o :: rest) ρ Γ :=
  ⟨fun hl => by
    obtain ⟨h1, h2⟩ := mx_open hl
    rw [List.length_cons, List.range'_succ]
    unfold Mix.Walk
    simp only [h1, hw.out ds, if_true, hs]
    exact ⟨fun w hc => (h w hc.1 hc.2).out r ds, by rw [mk_put]; exact g.out h2⟩⟩
theorem mx_any {G : Nat × Nat → Value → World → Prop} {d : Tmp} (hs : Sp k = .any G) (hd : o.dst = some d) (hw : Want N lo o ρ true) (h : ∀ w, Cl k w → For lo.toArray o Γ w → Do P N o ρ w (fun v w' => Ef k w w' ∧ G (w.heap.size, w'.heap.size) v w'))
    (g : ∀ I v, MX r P N ds lo Ef Cl Fin X Sp K tl (k + 1) rest (up ρ o.dst v) (upd Γ d (I, G I v))) : MX r P N ds lo Ef Cl Fin X Sp K tl k (o :: rest) ρ Γ :=
  ⟨fun hl => by
    obtain ⟨h1, h2⟩ := mx_open hl
    rw [List.length_cons, List.range'_succ]
    unfold Mix.Walk
    simp only [h1, hw.out ds, if_true, hs]
    exact ⟨fun w hc => (h w hc.1 hc.2).out r ds, fun I v => by rw [mk_put, addF_some hd]; exact (g I v).out h2⟩⟩
/-- a store to the new block of slot s -/
theorem mx_sto {G : Nat × Nat → Value → World → Prop} {s y : Tmp} {J : Nat × Nat} {f : World → Prop} {u : Value} (hs : Sp k = .sto s y G) (hy : ev N ρ (.tmp y) = u) (hd : o.dst = none) (hJ : Γ s = some (J, f)) (hw : Want N lo o ρ true) (h : ∀ w, Cl k w → For lo.toArray o Γ w → J.2 ≤ w.heap.size → Do P N o ρ w (fun v w' => Fr (inI J) w w' ∧ v = undef ∧ G J u w'))
    (g : MX r P N ds lo Ef Cl Fin X Sp K tl (k + 1) rest (up ρ o.dst undef) (upd Γ s (J, fun w => (∃ w0, f w0) ∧ G J u w))) : MX r P N ds lo Ef Cl Fin X Sp K tl k (o :: rest) ρ Γ :=
  ⟨fun hl => by
    obtain ⟨h1, h2⟩ := mx_open hl
    rw [List.length_cons, List.range'_succ]
    unfold Mix.Walk
    simp only [h1, hw.out ds, if_true, hs, mk_eval, hy]
    exact ⟨J, f, hJ, fun w hc hJ2 => (h w hc.1 hc.2 hJ2).out r ds, by rw [mk_put]; exact g.out h2⟩⟩
end mx

/-! ### Code -/
abbrev Cont := Exit → List Deferred → (Nat → Value) → World → Prop
def toQ (N : Nat) (K : Cont) : Exit → Act → World → Prop := fun e a w => (∀ c, e ≠ .panic c) ∧ e ≠ .outgrown ∧ ∃ ρ ds, a = mk N ρ ds ∧ K e ds ρ w
structure WK (r : Option Nat) (P : Program) (N : Nat) (c : Code) (K : Cont) (ds : List Deferred) (ρ : Nat → Value) (w : World) : Prop where
  out : c.wpIn (FR r) 0 P (toQ N K) (mk N ρ ds) w
@[reducible] def thenK (k : List Deferred → (Nat → Value) → World → Prop) (K : Cont) : Cont
  | .normal => k
  | e => K e
@[reducible] def blockK (id : Nat) (K : Cont) : Cont
  | .exit id' => if id' = id then K .normal else K (.exit id')
  | e => K e
section wk
variable {C : Cont} {c c1 c2 : Code}
theorem WK.mono {C' : Cont} (h : WK r P N c C ds ρ w) (hc : ∀ e ds ρ w, C e ds ρ w → C' e ds ρ w) : WK r P N c C' ds ρ w :=
  ⟨wpIn_mono h.out fun e a w ⟨h1, h2, ρ, ds, ha, hk⟩ => ⟨h1, h2, ρ, ds, ha, hc _ _ _ _ hk⟩⟩
theorem wk_seq (h : WK r P N c1 (thenK (fun ds ρ w => WK r P N c2 C ds ρ w) C) ds ρ w) : WK r P N (c1.seq c2) C ds ρ w :=
  ⟨wpIn_seq (wpIn_mono h.out fun e a w ⟨h1, h2, ρ, ds, ha, hk⟩ => by
    cases e with
    | normal => subst ha; exact hk.out
    | panic c => exact absurd rfl (h1 c)
    | outgrown => exact absurd rfl h2
    | exit id => exact ⟨h1, h2, ρ, ds, ha, hk⟩
    | goto l => exact ⟨h1, h2, ρ, ds, ha, hk⟩
    | ret => exact ⟨h1, h2, ρ, ds, ha, hk⟩)⟩
theorem wk_skip (h : C .normal ds ρ w) : WK r P N .skip C ds ρ w := ⟨wpIn_skip ⟨fun _ e => (by cases e), fun e => (by cases e), ρ, ds, rfl, h⟩⟩
theorem wk_exit {id : Nat} (h : C (.exit id) ds ρ w) : WK r P N (.exit id) C ds ρ w := ⟨wpIn_exit ⟨fun _ e => (by cases e), fun e => (by cases e), ρ, ds, rfl, h⟩⟩
theorem wk_ret (h : C .ret ds ρ w) : WK r P N .ret C ds ρ w := ⟨wpIn_ret ⟨fun _ e => (by cases e), fun e => (by cases e), ρ, ds, rfl, h⟩⟩
theorem wk_block {id : Nat} (h : WK r P N c (blockK id C) ds ρ w) : WK r P N (.block id c) C ds ρ w :=
  ⟨wpIn_block (wpIn_mono h.out fun e a w ⟨h1, h2, ρ, ds, ha, hk⟩ => by
    cases e with
    | exit id' =>
      by_cases hid : id' = id
      · simp only [Exit.inBlock, hid, if_true]
        simp only [blockK, hid, if_true] at hk
        exact ⟨fun _ e => (by cases e), fun e => (by cases e), ρ, ds, ha, hk⟩
      · simp only [Exit.inBlock, hid, if_false]
        simp only [blockK, hid, if_false] at hk
        exact ⟨h1, h2, ρ, ds, ha, hk⟩
    | panic c => exact absurd rfl (h1 c)
    | outgrown => exact absurd rfl h2
    | normal => exact ⟨h1, h2, ρ, ds, ha, hk⟩
    | goto l => exact ⟨h1, h2, ρ, ds, ha, hk⟩
    | ret => exact ⟨h1, h2, ρ, ds, ha, hk⟩)⟩
theorem wk_cond {x : Operand} {b : Bool} (hx : ev N ρ x = .bool b) (h1 : b = true → WK r P N c1 C ds ρ w) (h2 : b = false → WK r P N c2 C ds ρ w) : WK r P N (.cond x c1 c2) C ds ρ w :=
  ⟨wpIn_cond (t := b) (by rw [mk_eval]; exact hx) (by cases b; exact (h2 rfl).out; exact (h1 rfl).out)⟩
theorem wk_cond_t {x : Operand} (hx : ev N ρ x = .bool true) (h1 : WK r P N c1 C ds ρ w) : WK r P N (.cond x c1 c2) C ds ρ w := wk_cond hx (fun _ => h1) (fun e => by cases e)
theorem wk_cond_f {x : Operand} (hx : ev N ρ x = .bool false) (h1 : WK r P N c2 C ds ρ w) : WK r P N (.cond x c1 c2) C ds ρ w := wk_cond hx (fun e => by cases e) (fun _ => h1)
theorem wk_region {id : Nat} {l : List Oper} (h : LX r P N ds l (fun ρ w => C .normal ds ρ w) l ρ w) : WK r P N (.region id l.toArray false) C ds ρ w :=
  ⟨wpIn_mono (wpIn_region_lit h.out) fun e a w ⟨h1, ρ, ha, hk⟩ => by subst h1; exact ⟨fun _ e => (by cases e), fun e => (by cases e), ρ, ds, ha, hk⟩⟩
theorem least {p : Nat → Prop} : ∀ n, p n → ∃ m, p m ∧ ∀ k, p k → m ≤ k := by
  intro n
  induction n using Nat.strongRecOn with
  | _ n ih =>
    intro h
    by_cases hx : ∃ k, k < n ∧ p k
    · obtain ⟨k, hk, hp⟩ := hx; exact ih k hk hp
    · refine ⟨n, h, fun k hp => ?_⟩
      rcases Nat.lt_or_ge k n with h1 | h1
      · exact absurd ⟨k, h1, hp⟩ hx
      · exact h1
theorem least' {p : Nat → Prop} (h : ∃ n, p n) : ∃ m, p m ∧ ∀ k, p k → m ≤ k := let ⟨n, hn⟩ := h; least n hn
/-- A loop whose rounds are counted by a number of one's own. -/
theorem wk_loop (I : Nat → List Deferred → (Nat → Value) → World → Prop) (n : Nat) (h0 : I n ds ρ w)
    (hr : ∀ n ds ρ w, I n ds ρ w → WK r P N c (thenK (fun ds' ρ' w' => ∃ n', n' < n ∧ I n' ds' ρ' w') C) ds ρ w) : WK r P N (.loop c) C ds ρ w := by
  classical
  let J : Act → World → Nat → Prop := fun a w n => ∃ ρ ds, a = mk N ρ ds ∧ I n ds ρ w
  refine ⟨wpIn_loop (fun a w => ∃ n, J a w n) (fun a w => if h : ∃ n, J a w n then Classical.choose (least' h) else 0) ⟨n, ρ, ds, rfl, h0⟩ ?_⟩
  intro a w hJ
  have hspec := (Classical.choose_spec (least' hJ)).1
  obtain ⟨ρ1, ds1, ha, hI⟩ := hspec
  have hw := hr _ ds1 ρ1 w hI
  subst ha
  refine wpIn_mono hw.out fun e a' w' ⟨h1, h2, ρ2, ds2, ha', hk⟩ => ?_
  cases e with
  | normal =>
    obtain ⟨n', hlt, hI'⟩ := hk
    have hJ' : ∃ n, J a' w' n := ⟨n', ρ2, ds2, ha', hI'⟩
    refine ⟨hJ', ?_⟩
    simp only [dif_pos hJ, dif_pos hJ']
    exact Nat.lt_of_le_of_lt ((Classical.choose_spec (least' hJ')).2 n' ⟨ρ2, ds2, ha', hI'⟩) hlt
  | panic c => exact absurd rfl (h1 c)
  | outgrown => exact absurd rfl h2
  | exit id => exact ⟨h1, h2, ρ2, ds2, ha', hk⟩
  | goto l => exact ⟨h1, h2, ρ2, ds2, ha', hk⟩
  | ret => exact ⟨h1, h2, ρ2, ds2, ha', hk⟩
theorem wk_mixG {id : Nat} {l : List Oper} (m : Nat) (Ef : Nat → World → World → Prop) (Cl : Nat → World → Prop) (Fin : World → Prop) (X : Nat → Prop) (Γ0 : Facts) (Sp : Nat → Loud) (hm : P.follows .mixedOrders = true) (hf : fine l.toArray m = true)
    (hcl0 : ∀ i, Cl i { w with drawn := w.drawn + 1 }) (hfin0 : Fin { w with drawn := w.drawn + 1 })
    (hcl : ∀ i j w w', i ≠ j → Cl i w → Ef j w w' → Cl i w') (hfin : ∀ j w w', Fin w → Ef j w w' → Fin w')
    (hX : ∀ x, w.heap.size ≤ x → X x) (hclS : ∀ i w1 w', Cl i w1 → Fr X w1 w' → Cl i w') (hfinS : ∀ w1 w', Fin w1 → Fr X w1 w' → Fin w')
    (hst : ∀ k G, Sp k = .any G → (∀ j, k ≠ j → ∀ I v w w', Ef j w w' → G I v w → G I v w') ∧ (HasSto Sp → ∀ I v, StbI X I (G I v)))
    (hstS : ∀ k s y G, Sp k = .sto s y G → Mix.lone l.toArray m k s y = true ∧ (∀ j, k ≠ j → ∀ I v w w', Ef j w w' → G I v w → G I v w') ∧ ∀ I v, StbI X I (G I v))
    (hgr : ∀ j w w', Ef j w w' → w.heap.size ≤ w'.heap.size)
    (hΓ : Hold Γ0 { w with drawn := w.drawn + 1 }) (hΓs : ∀ d p, Γ0 d = some p → (∀ j w w', Ef j w w' → p.2 w → p.2 w') ∧ (HasSto Sp → StbI X p.1 p.2)) (hS : Sep X Γ0 { w with drawn := w.drawn + 1 })
    (h : MX r P N ds l Ef Cl Fin X Sp (fun ρ w => C .normal ds ρ w) (l.drop m) 0 (l.take m) ρ Γ0) : WK r P N (.region id l.toArray true) C ds ρ w := by
  have h5 : m ≤ l.length := by have := (fine_spec hf).2.2.2.2; simpa using this
  refine ⟨wpIn_mono (wpIn_region_mix (Γ0 := Γ0) (X := X) (Ef := Ef) (Cl := Cl) (Fin := Fin) (Sp := Sp) (m := m) (Q := fun e a w => e = .normal ∧ ∃ ρ, a = mk N ρ ds ∧ C .normal ds ρ w) hm (fun _ => trivial) rfl hf hcl0 hfin0 hcl hfin hX hclS hfinS hst hstS hgr hΓ hΓs hS ?_)
    fun e a w ⟨h1, ρ, ha, hk⟩ => by subst h1; exact ⟨fun _ e => (by cases e), fun e => (by cases e), ρ, ds, ha, hk⟩⟩
  have h6 := h.out (fun j hj => by
    simp only [List.length_take] at hj
    rw [Nat.zero_add, List.getElem?_take_of_lt (by omega)])
  have e1 : (l.take m).length = m := by simp [h5]
  rw [e1, ← List.range_eq_range'] at h6
  have e2 : wpOpsIn (FR r) 0 P l.toArray (fun e a w => e = .normal ∧ ∃ ρ, a = mk N ρ ds ∧ C .normal ds ρ w) (List.range' m (l.toArray.size - m)) =
      wpListIn (FR r) 0 P l.toArray (fun e a w => e = .normal ∧ ∃ ρ, a = mk N ρ ds ∧ C .normal ds ρ w) (l.drop m) := by
    have := wpOpsIn_eq_wpListIn (F := FR r) (n := 0) (P := P) (ops := l.toArray) (Q := fun e a w => e = .normal ∧ ∃ ρ, a = mk N ρ ds ∧ C .normal ds ρ w) (l.drop m) m (fun j => by simp)
    simpa using this
  simp only [e2]
  exact h6
/-- no operation turns what was there -/
theorem wk_mix {id : Nat} {l : List Oper} (m : Nat) (Sp : Nat → Loud) (hm : P.follows .mixedOrders = true) (hf : fine l.toArray m = true)
    (hst : ∀ k G, Sp k = .any G → (∀ j, k ≠ j → ∀ I v w w', Ext w w' → G I v w → G I v w') ∧ (HasSto Sp → ∀ I v, StbI (fun x => w.heap.size ≤ x) I (G I v)))
    (hstS : ∀ k s y G, Sp k = .sto s y G → Mix.lone l.toArray m k s y = true ∧ (∀ j, k ≠ j → ∀ I v w w', Ext w w' → G I v w → G I v w') ∧ ∀ I v, StbI (fun x => w.heap.size ≤ x) I (G I v))
    (h : MX r P N ds l (fun _ => Ext) (fun _ => Ext { w with drawn := w.drawn + 1 }) (Ext { w with drawn := w.drawn + 1 }) (fun x => w.heap.size ≤ x) Sp (fun ρ w => C .normal ds ρ w) (l.drop m) 0 (l.take m) ρ nof) : WK r P N (.region id l.toArray true) C ds ρ w :=
  wk_mixG m _ _ _ _ nof Sp hm hf (fun _ => Fr.refl no _) (Fr.refl no _) (fun _ _ _ _ _ h k => Fr.trans' h k) (fun _ _ _ h k => Fr.trans' h k) (fun _ h => h) (fun _ _ _ h k => Fr.new h k (fun _ hx => hx)) (fun _ _ h k => Fr.new h k (fun _ hx => hx)) hst hstS (fun _ _ _ h => h.size) (fun d p hp => by cases hp) (fun d p hp => by cases hp) ⟨fun d p hp => (by cases hp), fun d p e q hp => (by cases hp)⟩ h
/-- one operation turns blocks of S -/
theorem wk_mixA {id : Nat} {l : List Oper} (m A : Nat) (S : Nat → Prop) (Sp : Nat → Loud) (hm : P.follows .mixedOrders = true) (hf : fine l.toArray m = true)
    (hst : ∀ k G, Sp k = .any G → (∀ j, k ≠ j → ∀ I v w w', (if j = A then Fr S w w' else Ext w w') → G I v w → G I v w') ∧ (HasSto Sp → ∀ I v, StbI (fun x => w.heap.size ≤ x) I (G I v)))
    (hstS : ∀ k s y G, Sp k = .sto s y G → Mix.lone l.toArray m k s y = true ∧ (∀ j, k ≠ j → ∀ I v w w', (if j = A then Fr S w w' else Ext w w') → G I v w → G I v w') ∧ ∀ I v, StbI (fun x => w.heap.size ≤ x) I (G I v))
    (h : MX r P N ds l (fun j w w' => if j = A then Fr S w w' else Ext w w') (fun i w' => if i = A then Ext { w with drawn := w.drawn + 1 } w' else Fr S { w with drawn := w.drawn + 1 } w') (Fr S { w with drawn := w.drawn + 1 }) (fun x => w.heap.size ≤ x) Sp (fun ρ w => C .normal ds ρ w) (l.drop m) 0 (l.take m) ρ nof) : WK r P N (.region id l.toArray true) C ds ρ w :=
  wk_mixG m _ _ _ _ nof Sp hm hf (fun i => by split <;> exact Fr.refl _ _) (Fr.refl _ _) (fun i j w w' hij h k => by
    split
    · rename_i hi
      rw [if_pos hi] at h
      rw [if_neg (by omega)] at k
      exact h.trans' k
    · rename_i hi
      rw [if_neg hi] at h
      split at k
      · exact h.trans k (fun _ _ hk => hk)
      · exact h.ext k) (fun j w w' h k => by
    split at k
    · exact h.trans k (fun _ _ hk => hk)
    · exact h.ext k) (fun _ h => h) (fun i w1 w' h k => by
    split
    · rename_i hi
      rw [if_pos hi] at h
      exact Fr.new h k (fun _ hx => hx)
    · rename_i hi
      rw [if_neg hi] at h
      exact Fr.new h k (fun _ hx => hx)) (fun _ _ h k => Fr.new h k (fun _ hx => hx)) hst hstS (fun j w w' h => by split at h <;> exact h.size) (fun d p hp => by cases hp) (fun d p hp => by cases hp) ⟨fun d p hp => (by cases hp), fun d p e q hp => (by cases hp)⟩ h
end wk

/-! ### Functions -/
def retK (P : Program) (fn : Func) (N : Nat) (S : Nat → Prop) (R : Value → World → Prop) (w0 : World) : Cont
  | .normal, ds, ρ, w | .ret, ds, ρ, w => ds = [] ∧ ∃ v, (results fn (mk N ρ ds).tmps).run P w = .ok v w ∧ Fr S w0 w ∧ R v w
  | _, _, _, _ => False
theorem ct_body {f : FuncId} {fn : Func} {c : Code} {args : List Value} {S : Nat → Prop} {R : Value → World → Prop} (hf : P.funcs[f]? = some fn) (hb : fn.body = some c) (hN : fn.ntmps = N) (ha : args.length ≤ N)
    (h : WK none P N c (retK P fn N S R w) [] (argsF args) w) : CT P f args w S R := by
  subst hN
  refine ⟨callsIn_of_wp hf hb trivial (wpIn_mono (show c.wpIn (FR none) 0 P _ _ w from by rw [← mk_args _ _ ha]; exact h.out) ?_)⟩
  rintro e a w' ⟨h1, h2, ρ, ds, rfl, hk⟩
  cases e with
  | normal => obtain ⟨rfl, v, hr, hf, hR⟩ := hk; exact ⟨rfl, v, hr, v, rfl, hf, hR⟩
  | ret => obtain ⟨rfl, v, hr, hf, hR⟩ := hk; exact ⟨rfl, v, hr, v, rfl, hf, hR⟩
  | panic c => exact absurd rfl (h1 c)
  | outgrown => exact absurd rfl h2
  | exit id => exact hk.elim
  | goto l => exact hk.elim
section ret
variable {fn : Func} {S : Nat → Prop} {R : Value → World → Prop} {w0 : World}
theorem ret0 (hr : fn.results = #[]) (hf : Fr S w0 w) (hR : R (.tuple #[]) w) : retK P fn N S R w0 .ret [] ρ w := ⟨rfl, _, results_none hr _ P w, hf, hR⟩
end ret
end Go.Eng

/- Maps as the lists of their entries, with any keys; their length; parts of slices; the greatest of two numbers; a string's byte. No program stands here. -/
import Derived.Test.YtgnnegfnpgnbbaaGreatDoorHomesMapV
import Derived.Test.YtgnnegfnpgnbbaaGreatDoorHomesMem
set_option linter.unusedVariables false
set_option linter.unusedSimpArgs false
namespace Go.Eng
open Go Go.RowKit Go.Mix
/-- what is asked of a map's types, so that keys are found -/
structure MapG {κ : Type} [DecidableEq κ] (P : Program) (TM T E : TypeId) (kv : κ → Value) (z : Value) : Prop where
  ht : P.underlying TM = some (.map T E)
  hz : ∀ w, (zeroValue E).run P w = .ok z w
  hc : ∀ (e : Bool) (k : κ) w, (Instr.checkKey e 10000 T (kv k)).run P w = .ok () w
  find : ∀ (es : List MapEntry) (l : List (κ × Value)), Ents kv es l → ∀ (k : κ) w, (∃ j v, (Instr.findKey T (kv k) es).run P w = .ok (some (j, v)) w ∧ getL l k = some v) ∨ ((Instr.findKey T (kv k) es).run P w = .ok none w ∧ getL l k = none)
theorem MapVT.g {κ : Type} [DecidableEq κ] {P : Program} {TM T E : TypeId} {kv : κ → Value} {z : Value} (h : MapVT P TM T E kv z) : MapG P TM T E kv z :=
  ⟨h.ht, h.hz, h.hc, fun es l he k w => by
    rcases find_run h he k w with ⟨j, v, g1, g2, _⟩ | ⟨g1, g2, _⟩
    · exact .inl ⟨j, v, g1, g2⟩
    · exact .inr ⟨g1, g2⟩⟩
def kU (n : Int) : Value := .int .u8 n
theorem kU_key : KeyK kU (.int .u8) := ⟨fun a b => by
  unfold kU Instr.sameNow
  simp only [if_true, Option.some.injEq]
  by_cases h : a = b <;> simp [h], fun a => by unfold kU; simp [Instr.sameBits]⟩
/-- keys of two integers -/
def kD (d : Int × Int) : Value := .agg #[.int .i64 d.1, .int .i64 d.2]
section
variable {P : Program} {T : TypeId}
theorem find_askD (he : ∀ (x1 x2 x3 x4 : Int) w, (Op.equal T (.agg #[.int .i64 x1, .int .i64 x2]) (.agg #[.int .i64 x3, .int .i64 x4])).run P w = .ok (decide (x1 = x3 ∧ x2 = x4)) w) (k : Int × Int) (w : World) :
    ∀ (es : List MapEntry) (l : List ((Int × Int) × Value)) (i : Nat), Ents kD es l → (∃ j v, (Instr.findAsking T (kD k) es i).run P w = .ok (some (i + j, v)) w ∧ getL l k = some v) ∨ ((Instr.findAsking T (kD k) es i).run P w = .ok none w ∧ getL l k = none)
  | [], l, i, h => by
    right
    have : l = [] := by unfold Ents at h; cases l with | nil => rfl | cons p l => simp at h
    subst this
    exact ⟨by simp [Instr.findAsking], rfl⟩
  | e :: es, l, i, h => by
    obtain ⟨p, l', rfl, h1, h2, h3⟩ := ents_cons h
    have hE : (Op.equal T (kD k) e.key).run P w = .ok (decide (k.1 = p.1.1 ∧ k.2 = p.1.2)) w := by rw [h1]; exact he k.1 k.2 p.1.1 p.1.2 w
    by_cases hkk : k = p.1
    · left
      refine ⟨0, p.2, ?_, by unfold getL; simp [hkk]⟩
      have hd : decide (k.1 = p.1.1 ∧ k.2 = p.1.2) = true := by rw [hkk]; simp
      rw [hd] at hE
      unfold Instr.findAsking
      simp [Sem.run_bind, hE, h2]
    · have hd : decide (k.1 = p.1.1 ∧ k.2 = p.1.2) = false := decide_eq_false (fun h => hkk (Prod.ext h.1 h.2))
      rw [hd] at hE
      have hg : getL (p :: l') k = getL l' k := by unfold getL; rw [List.find?_cons, decide_eq_false (fun h => hkk h.symm)]
      have hr : (Instr.findAsking T (kD k) (e :: es) i).run P w = (Instr.findAsking T (kD k) es (i + 1)).run P w := by
        conv => lhs; unfold Instr.findAsking
        simp [Sem.run_bind, hE]
      rw [hr, hg]
      rcases find_askD he k w es l' (i + 1) h3 with ⟨j, v, g1, g2⟩ | ⟨g1, g2⟩
      · exact .inl ⟨j + 1, v, by rw [g1, Nat.add_assoc, Nat.add_comm 1 j], g2⟩
      · exact .inr ⟨g1, g2⟩
theorem find_keyD (hs : ∃ fs, P.underlying T = some (.struct fs)) (he : ∀ (x1 x2 x3 x4 : Int) w, (Op.equal T (.agg #[.int .i64 x1, .int .i64 x2]) (.agg #[.int .i64 x3, .int .i64 x4])).run P w = .ok (decide (x1 = x3 ∧ x2 = x4)) w) (k : Int × Int) (w : World)
    (es : List MapEntry) (l : List ((Int × Int) × Value)) (h : Ents kD es l) : (∃ j v, (Instr.findKey T (kD k) es).run P w = .ok (some (j, v)) w ∧ getL l k = some v) ∨ ((Instr.findKey T (kD k) es).run P w = .ok none w ∧ getL l k = none) := by
  obtain ⟨fs, hs⟩ := hs
  cases es with
  | nil =>
    right
    have : l = [] := by unfold Ents at h; cases l with | nil => rfl | cons p l => simp at h
    subst this
    refine ⟨?_, rfl⟩
    unfold Instr.findKey
    simp [Sem.run_bind, run_underlying hs, Instr.findNow]
  | cons e es =>
    obtain ⟨p, l', rfl, h1, h2, h3⟩ := ents_cons h
    have hn : Instr.findNow (.struct fs) (kD k) (e :: es) 0 = none := by
      unfold Instr.findNow
      rw [h1]; rfl
    have hr : (Instr.findKey T (kD k) (e :: es)).run P w = (Instr.findAsking T (kD k) (e :: es) 0).run P w := by
      unfold Instr.findKey
      simp only [Sem.run_bind, run_underlying hs, Result.andThen_ok, hn]
    rw [hr]
    have := find_askD he k w (e :: es) (p :: l') 0 h
    simpa using this
theorem MapG.ofD {TM E : TypeId} {z : Value} (ht : P.underlying TM = some (.map T E)) (hz : ∀ w, (zeroValue E).run P w = .ok z w) (hs : ∃ fs, P.underlying T = some (.struct fs)) (hc : ∀ (e : Bool) (x y : Int) w, (Instr.checkKey e 10000 T (.agg #[.int .i64 x, .int .i64 y])).run P w = .ok () w)
    (he : ∀ (x1 x2 x3 x4 : Int) w, (Op.equal T (.agg #[.int .i64 x1, .int .i64 x2]) (.agg #[.int .i64 x3, .int .i64 x4])).run P w = .ok (decide (x1 = x3 ∧ x2 = x4)) w) : MapG P TM T E kD z :=
  ⟨ht, hz, fun e k w => hc e k.1 k.2 w, fun es l h k w => find_keyD hs he k w es l h⟩
end
section
variable {κ : Type} [DecidableEq κ]
/-- The map in block b has these entries, in the order in which they came. -/
def MapL (w : World) (b : Nat) (kv : κ → Value) (l : List (κ × Value)) : Prop := ∃ es clock, w.heap[b]? = some (.map es clock) ∧ Ents kv es.toList l
variable {w w' : World} {b c : Nat} {kv : κ → Value} {l : List (κ × Value)}
omit [DecidableEq κ] in
theorem MapL.lt (h : MapL w b kv l) : b < w.heap.size := by obtain ⟨es, clock, h1, _⟩ := h; exact (Array.getElem?_eq_some_iff.1 h1).1
omit [DecidableEq κ] in
theorem MapL.fr {S : Nat → Prop} (h : MapL w b kv l) (k : Fr S w w') (hs : ¬ S b) : MapL w' b kv l := by
  have hl := h.lt
  obtain ⟨es, clock, h1, h2⟩ := h
  exact ⟨es, clock, (k.block b hl hs).trans h1, h2⟩
omit [DecidableEq κ] in
theorem MapL.ext (h : MapL w b kv l) (k : Ext w w') : MapL w' b kv l := h.fr k (fun hn => hn)
omit [DecidableEq κ] in
theorem MapL.ne (h : MapL w b kv l) (k : Fr (· = c) w w') (hn : b ≠ c) : MapL w' b kv l := h.fr k hn
omit [DecidableEq κ] in
theorem MapL.len (h : MapL w b kv l) : ∃ es clock, w.heap[b]? = some (.map es clock) ∧ es.size = l.length := by
  obtain ⟨es, clock, h1, h2⟩ := h
  refine ⟨es, clock, h1, ?_⟩
  unfold Ents at h2
  have := congrArg List.length h2
  simpa using this
variable {P : Program} {N : Nat} {ρ : Nat → Value} {v : Value} {d : Option Tmp} {t : TypeId} {p : String} {a : Array Edge} {g : Option (Nat × Bool)}
variable {x y z : Operand} {T E TM : TypeId} {zv : Value} {k : κ}
theorem rn_lookL (h : MapG P TM T E kv zv) (hx : ev N ρ x = .map (some b)) (hy : ev N ρ y = kv k) (hm : MapL w b kv l) : Rn P N ⟨d, .lookup TM x y false, t, p, a, g⟩ ρ w ((getL l k).getD zv) w :=
  ⟨fun _ h => (by cases h), by
    obtain ⟨es, clock, h1, h2⟩ := hm
    have hg : (getObj b).run P w = .ok (.map es clock) w := gobj h1
    have hc := h.hc es.isEmpty k w
    rcases h.find _ _ h2 k w with ⟨j, v, g1, g2⟩ | ⟨g1, g2⟩
    · rw [g2]; simp [execOp, hx, hy, Instr.lookup, Sem.run_bind, run_underlying h.ht, hg, hc, g1]
    · rw [g2]; simp [execOp, hx, hy, Instr.lookup, Sem.run_bind, run_underlying h.ht, hg, hc, g1, h.hz]⟩
theorem rn_lookLOk (h : MapG P TM T E kv zv) (hx : ev N ρ x = .map (some b)) (hy : ev N ρ y = kv k) (hm : MapL w b kv l) :
    Rn P N ⟨d, .lookup TM x y true, t, p, a, g⟩ ρ w (.tuple #[(getL l k).getD zv, .bool (getL l k).isSome]) w :=
  ⟨fun _ h => (by cases h), by
    obtain ⟨es, clock, h1, h2⟩ := hm
    have hg : (getObj b).run P w = .ok (.map es clock) w := gobj h1
    have hc := h.hc es.isEmpty k w
    rcases h.find _ _ h2 k w with ⟨j, v, g1, g2⟩ | ⟨g1, g2⟩
    · rw [g2]; simp [execOp, hx, hy, Instr.lookup, Sem.run_bind, run_underlying h.ht, hg, hc, g1]
    · rw [g2]; simp [execOp, hx, hy, Instr.lookup, Sem.run_bind, run_underlying h.ht, hg, hc, g1, h.hz]⟩
theorem map_updL (h : MapG P TM T E kv zv) {u : Value} (hm : MapL w b kv l) (hn : getL l k = none) :
    ∃ w', (Instr.mapUpdate TM (.map (some b)) (kv k) u).run P w = .ok () w' ∧ Fr (· = b) w w' ∧ MapL w' b kv (l ++ [(k, u)]) := by
  obtain ⟨es, clock, h1, h2⟩ := hm
  have hg : (getObj b).run P w = .ok (.map es clock) w := gobj h1
  have hc := h.hc false k w
  have hlt := (Array.getElem?_eq_some_iff.1 h1).1
  rcases h.find _ _ h2 k w with ⟨j, v, g1, g2⟩ | ⟨g1, g2⟩
  · rw [hn] at g2; cases g2
  · have hset := sobj (P := P) (.map (es.push { key := kv k, val := u, born := clock }) (clock + 1)) h1
    refine ⟨_, ?_, fr_setObj h1 (.map (es.push { key := kv k, val := u, born := clock }) (clock + 1)), ?_⟩
    · simp [Instr.mapUpdate, Sem.run_bind, run_underlying h.ht, hg, hc, g1, hset]
    · refine ⟨_, _, by show (w.heap.setIfInBounds b _)[b]? = _; rw [Array.getElem?_setIfInBounds_self_of_lt hlt], ?_⟩
      unfold Ents at h2 ⊢
      rw [Array.toList_push, List.map_append, h2, List.map_append]; rfl
variable {r : Option Nat} {ds : List Deferred} {lo rest : List Oper} {K : (Nat → Value) → World → Prop} {u : Value}
theorem lx_updL (hw : Want N lo ⟨d, .mapUpdate TM x y z, t, p, a, g⟩ ρ true) (h : MapG P TM T E kv zv) (hx : ev N ρ x = .map (some b)) (hy : ev N ρ y = kv k) (hz : ev N ρ z = u) (hm : MapL w b kv l) (hn : getL l k = none)
    (kk : ∀ w', Fr (· = b) w w' → MapL w' b kv (l ++ [(k, u)]) → LX r P N ds lo K rest (up ρ d undef) w') : LX r P N ds lo K (⟨d, .mapUpdate TM x y z, t, p, a, g⟩ :: rest) ρ w := by
  obtain ⟨w', h1, h2, h3⟩ := map_updL (u := u) h hm hn
  exact lx_store hw ⟨fun _ h => (by cases h), by simp [execOp, hx, hy, hz, h1]⟩ (kk w' h2 h3)
theorem lx_insL (hw : Want N lo ⟨d, .insert TM x y z, t, p, a, g⟩ ρ true) (h : MapG P TM T E kv zv) (hx : ev N ρ x = .map (some b)) (hy : ev N ρ y = kv k) (hz : ev N ρ z = u) (hm : MapL w b kv l) (hn : getL l k = none)
    (kk : ∀ w', Fr (· = b) w w' → MapL w' b kv (l ++ [(k, u)]) → LX r P N ds lo K rest (up ρ d undef) w') : LX r P N ds lo K (⟨d, .insert TM x y z, t, p, a, g⟩ :: rest) ρ w := by
  obtain ⟨w', h1, h2, h3⟩ := map_updL (u := u) h hm hn
  exact lx_store hw ⟨fun _ h => (by cases h), by simp [execOp, hx, hy, hz, h1]⟩ (kk w' h2 h3)
omit [DecidableEq κ] in
theorem lx_makeMapL (kv : κ → Value) (hw : Want N lo ⟨d, .makeMap TM none, t, p, a, g⟩ ρ true)
    (kk : ∀ b w', b = w.heap.size → Ext w w' → MapL w' b kv [] → LX r P N ds lo K rest (up ρ d (.map (some b))) w') :
    LX r P N ds lo K (⟨d, .makeMap TM none, t, p, a, g⟩ :: rest) ρ w :=
  lx_value hw (v := .map (some w.heap.size)) (w' := w.alloc (.map #[] 0)) ⟨fun _ h => (by cases h), run_makeMap0 w⟩ (kk _ _ rfl (ext_alloc _ _) ⟨#[], 0, World.alloc_heap_new w _, rfl⟩)
omit [DecidableEq κ] in
theorem rn_lenM {T E : TypeId} (ht : P.underlying TM = some (.map T E)) (hx : ev N ρ x = .map (some b)) (hm : MapL w b kv l) :
    Rn P N ⟨d, .call { callee := .builtin .len, args := #[x], argTypes := #[TM] }, t, p, a, g⟩ ρ w (.int .i64 (l.length : Nat)) w :=
  ⟨fun _ h => (by cases h), by
    obtain ⟨es, clock, h1, h2⟩ := hm.len
    have hg : (getObj b).run P w = .ok (.map es clock) w := gobj h1
    simp [execOp, resolve, hx, invoke, builtin, Builtin.len_, run_underlying ht, hg, goInt, h2]⟩
end
section
variable {P : Program} {N : Nat} {ρ : Nat → Value} {w : World} {v : Value} {d : Option Tmp} {t : TypeId} {p : String} {a : Array Edge} {g : Option (Nat × Bool)} {x y z : Operand} {T E : TypeId} {m n : Int} {Ts : Array TypeId}
theorem rn_max {k : IntKind} (hx : ev N ρ x = .int k m) (hy : ev N ρ y = .int k n) : Rn P N ⟨d, .call { callee := .builtin .max, args := #[x, y], argTypes := Ts }, t, p, a, g⟩ ρ w (.int k (if n > m then n else m)) w :=
  ⟨fun _ h => (by cases h), by simp [execOp, resolve, hx, hy, invoke, builtin, Builtin.max_, Builtin.max2]⟩
theorem rn_byteAt {s : ByteArray} {c : UInt8} (i : Nat) (ht : P.underlying T = some .string) (hx : ev N ρ x = .string s) (hy : ev N ρ y = .int .i64 m) (hm : m = (i : Int)) (hc : s[i]? = some c) : Rn P N ⟨d, .index T x y, t, p, a, g⟩ ρ w (.int .u8 (c.toNat : Nat)) w :=
  ⟨fun _ h => (by cases h), by subst hm; simp [execOp, hx, hy, Instr.index, asIntOf, run_underlying ht, hc]⟩
theorem rn_cap {s : Option Addr} {len cap : Nat} (ht : P.underlying T = some (.slice E)) (hx : ev N ρ x = .slice s len cap) :
    Rn P N ⟨d, .call { callee := .builtin .cap, args := #[x], argTypes := #[T] }, t, p, a, g⟩ ρ w (.int .i64 cap) w :=
  ⟨fun _ h => (by cases h), by simp [execOp, resolve, hx, invoke, builtin, Builtin.cap_, run_underlying ht, goInt]⟩
theorem rn_makeFuncB {fn : Fn} {b c : List Operand} {m l : List Value} (hb : b.map (ev N ρ) = m) (hc : c.map (ev N ρ) = l) : Rn P N ⟨d, .makeFunc fn b.toArray c.toArray, t, p, a, g⟩ ρ w (.func fn m.toArray l.toArray) w :=
  ⟨fun _ h => (by cases h), by simp [execOp, Instr.makeFunc, hb, hc]⟩
theorem ent_valueB {f : FuncId} {xs : List Operand} {bnd vs cap : List Value} (hf : ∀ args w, (callFunc f args).run P w = .ok (.enter f args) w) (hx : ev N ρ x = .func (.func f) bnd.toArray cap.toArray) (ha : xs.map (ev N ρ) = vs) :
    Ent P N ⟨d, .call { callee := .value x, args := xs.toArray, argTypes := Ts }, t, p, a, g⟩ ρ f (bnd ++ vs ++ cap) :=
  ⟨fun _ h => (by cases h), fun w => by
    subst ha
    simp [execOp, resolve, hx, Deferred.ofValue, invoke, hf]⟩
theorem rn_build5 {i1 i2 i3 i4 i5 : Nat} {x1 x2 x3 x4 x5 : Operand} {u1 u2 u3 u4 u5 : Value} (h1 : ev N ρ x1 = u1) (h2 : ev N ρ x2 = u2) (h3 : ev N ρ x3 = u3) (h4 : ev N ρ x4 = u4) (h5 : ev N ρ x5 = u5) (h : ∀ w, (Instr.build T #[(i1, u1), (i2, u2), (i3, u3), (i4, u4), (i5, u5)]).run P w = .ok v w) :
    Rn P N ⟨d, .build T #[(i1, x1), (i2, x2), (i3, x3), (i4, x4), (i5, x5)], t, p, a, g⟩ ρ w v w := ⟨fun _ h => (by cases h), by simp [execOp, h1, h2, h3, h4, h5, h]⟩
theorem rn_build6 {i1 i2 i3 i4 i5 i6 : Nat} {x1 x2 x3 x4 x5 x6 : Operand} {u1 u2 u3 u4 u5 u6 : Value} (h1 : ev N ρ x1 = u1) (h2 : ev N ρ x2 = u2) (h3 : ev N ρ x3 = u3) (h4 : ev N ρ x4 = u4) (h5 : ev N ρ x5 = u5) (h6 : ev N ρ x6 = u6) (h : ∀ w, (Instr.build T #[(i1, u1), (i2, u2), (i3, u3), (i4, u4), (i5, u5), (i6, u6)]).run P w = .ok v w) :
    Rn P N ⟨d, .build T #[(i1, x1), (i2, x2), (i3, x3), (i4, x4), (i5, x5), (i6, x6)], t, p, a, g⟩ ρ w v w := ⟨fun _ h => (by cases h), by simp [execOp, h1, h2, h3, h4, h5, h6, h]⟩
/-- a part of a slice -/
theorem rn_sliceLH {s : Option Addr} {len cap size : Nat} (i k : Nat) {m n : Int} (ht : P.underlying T = some (.slice E)) (hs : ∀ w, (sizeOf E).run P w = .ok size w) (hx : ev N ρ x = .slice s len cap) (hy : ev N ρ y = .int .i64 m) (hz : ev N ρ z = .int .i64 n) (hm : m = (i : Int)) (hn : n = (k : Int)) (hi : i ≤ k) (hk : k ≤ cap) :
    Rn P N ⟨d, .slice T x (some y) (some z) none, t, p, a, g⟩ ρ w (.slice (dropAt s i cap size) (k - i) (cap - i)) w :=
  ⟨fun _ h => (by cases h), by
    subst hm; subst hn
    have h1 : (0 : Int) ≤ (i : Int) ∧ (i : Int) ≤ (k : Int) := by omega
    have h2 : (0 : Int) ≤ (k : Int) ∧ (k : Int) ≤ (cap : Int) := by omega
    simp [execOp, hx, hy, hz, Instr.sliceAt, run_underlying ht, Instr.slice, Instr.sliceBounds, run_sliceBound, hs, h1, h2, dropAt]⟩
end
section
variable {α : Type} {F : Nat → Prop} {w : World} {s : Option Addr} {sz : Nat} {l : List α} {C : World → Nat → Nat → α → Prop}
theorem Sl.take (h : Sl F w s sz l C) (k : Nat) : Sl F w s sz (l.take k) C := fun i x hx => h i x (by
  rw [List.getElem?_take] at hx
  split at hx
  · exact hx
  · cases hx)
theorem Sl.drop (h : Sl F w s sz l C) {k cap : Nat} (hc : l.length ≤ cap) : Sl F w (dropAt s k cap sz) sz (l.drop k) C := fun i x hx => by
  rw [List.getElem?_drop] at hx
  obtain ⟨b, o, g1, g2, g3⟩ := h (k + i) x hx
  have hlt := (List.getElem?_eq_some_iff.1 hx).1
  refine ⟨b, o + k * sz, ?_, g2, by rw [Nat.add_assoc, ← Nat.add_mul]; exact g3⟩
  unfold dropAt
  rw [if_neg (by omega), g1, Option.map_some, addr_add]
end
end Go.Eng

/- Maps whose keys are pairs of numbers and whose values are truth values. No program stands here. -/
import Derived.Test.YtlfclnkoimfhmaaDoorNum
import Derived.Laws.NewFold
set_option linter.unusedVariables false
set_option linter.unusedSimpArgs false
namespace Go.Eng
open Go Go.RowKit Go.Mix
def keyV (k : Nat × Nat) : Value := .agg #[.int .i64 (k.1 : Nat), .int .i64 (k.2 : Nat)]
def keyN (v : Value) : Option (Nat × Nat) :=
  match v with
  | .agg cs => (match cs.toList with
    | [.int .i64 a, .int .i64 b] => some (a.toNat, b.toNat)
    | _ => none)
  | _ => none
theorem keyN_V (k : Nat × Nat) : keyN (keyV k) = some k := by simp [keyN, keyV]
/-- what the first entry of a key says; false if there is none -/
def findB : List MapEntry → Nat × Nat → Bool
  | [], _ => false
  | e :: es, k => if keyN e.key = some k then (match e.val with | .bool b => b | _ => false) else findB es k
/-- The map in block b reads as f. -/
def MapF (w : World) (b : Nat) (f : Nat × Nat → Bool) : Prop :=
  ∃ es clock, w.heap[b]? = some (.map es clock) ∧ (∀ e ∈ es.toList, ∃ k v, e.key = keyV k ∧ e.val = .bool v) ∧ ∀ k, findB es.toList k = f k
section
variable {w w' : World} {b c : Nat} {f : Nat × Nat → Bool}
theorem MapF.lt (h : MapF w b f) : b < w.heap.size := by obtain ⟨es, clock, h1, _⟩ := h; exact (Array.getElem?_eq_some_iff.1 h1).1
theorem MapF.fr {S : Nat → Prop} (h : MapF w b f) (k : Fr S w w') (hs : ¬ S b) : MapF w' b f := by
  have hl := h.lt
  obtain ⟨es, clock, h1, h2, h3⟩ := h
  exact ⟨es, clock, (k.block b hl hs).trans h1, h2, h3⟩
theorem MapF.ext (h : MapF w b f) (k : Ext w w') : MapF w' b f := h.fr k (fun hn => hn)
theorem MapF.ne (h : MapF w b f) (k : Fr (· = c) w w') (hn : b ≠ c) : MapF w' b f := h.fr k hn
theorem MapF.of (h : MapF w b f) {f' : Nat × Nat → Bool} (he : ∀ k, f k = f' k) : MapF w b f' := by
  obtain ⟨es, clock, h1, h2, h3⟩ := h
  exact ⟨es, clock, h1, h2, fun k => (h3 k).trans (he k)⟩
theorem keyV_inj {j k : Nat × Nat} (h : keyV j = keyV k) : j = k := by
  unfold keyV at h
  simp only [Value.agg.injEq, Array.mk.injEq, List.cons.injEq, Value.int.injEq, true_and, and_true] at h
  exact Prod.ext (by omega) (by omega)
end
section
variable {P : Program} {N : Nat} {ρ : Nat → Value} {w w' : World} {v : Value} {d : Option Tmp} {t : TypeId} {p : String} {a : Array Edge} {g : Option (Nat × Bool)}
variable {x y z : Operand} {T E TM : TypeId}
theorem equal_of_bin {X Y : Array Value} {b : Bool} (h : (binOp .eql T (.agg X) (.agg Y)).run P w = .ok (.bool b) w) : (Op.equal T (.agg X) (.agg Y)).run P w = .ok b w := by
  have hX : binOp .eql T (.agg X) (.agg Y) = (do pure (.bool (← Op.equal T (.agg X) (.agg Y)))) := by unfold binOp; rfl
  rw [hX, Sem.run_bind] at h
  cases hr : (Op.equal T (.agg X) (.agg Y)).run P w with
  | ok c w' =>
    rw [hr] at h
    simp only [Result.andThen_ok, Sem.run_pure, Result.ok.injEq, Value.bool.injEq] at h
    rw [h.1, h.2]
  | _ => rw [hr] at h; simp [Result.andThen] at h
/-- what the program says of a map's types -/
structure MapT (P : Program) (TM T E : TypeId) : Prop where
  ht : P.underlying TM = some (.map T E)
  hz : ∀ w, (zeroValue E).run P w = .ok (.bool false) w
  hs : ∃ fs, P.underlying T = some (.struct fs)
  hc : ∀ (e : Bool) (x y : Int) w, (Instr.checkKey e 10000 T (.agg #[.int .i64 x, .int .i64 y])).run P w = .ok () w
  he : ∀ (x1 x2 x3 x4 : Int) w, (Op.equal T (.agg #[.int .i64 x1, .int .i64 x2]) (.agg #[.int .i64 x3, .int .i64 x4])).run P w = .ok (decide (x1 = x3 ∧ x2 = x4)) w
theorem gobj {es : Array MapEntry} {clock b : Nat} (h : w.heap[b]? = some (.map es clock)) : (getObj b).run P w = .ok (.map es clock) w := by simp [getObj, Sem.run, h]
theorem sobj {es : Array MapEntry} {clock b : Nat} (o : Obj) (h : w.heap[b]? = some (.map es clock)) : (setObj b o).run P w = .ok () { w with heap := w.heap.setIfInBounds b o } := by simp [setObj, Sem.run, h]
theorem find_asking (h : MapT P TM T E) (k : Nat × Nat) (w : World) : ∀ (es : List MapEntry) (i : Nat), (∀ e ∈ es, ∃ k v, e.key = keyV k ∧ e.val = .bool v) →
    (∃ (j : Nat) (e : MapEntry) (u : Bool), (Instr.findAsking T (keyV k) es i).run P w = .ok (some (i + j, .bool u)) w ∧ es[j]? = some e ∧ e.key = keyV k ∧ e.val = .bool u ∧ findB es k = u ∧ ∀ j' e', j' < j → es[j']? = some e' → keyN e'.key ≠ some k) ∨
    ((Instr.findAsking T (keyV k) es i).run P w = .ok none w ∧ findB es k = false ∧ ∀ e ∈ es, keyN e.key ≠ some k)
  | [], i, _ => .inr ⟨by simp [Instr.findAsking], rfl, fun e h => by simp at h⟩
  | e :: es, i, hes => by
    obtain ⟨k', u, hk, hu⟩ := hes e (List.mem_cons_self ..)
    have he := h.he k.1 k.2 k'.1 k'.2 w
    have hE : (Op.equal T (keyV k) e.key).run P w = .ok (decide ((k.1 : Int) = k'.1 ∧ (k.2 : Int) = k'.2)) w := by rw [hk]; exact he
    by_cases hkk : k = k'
    · subst hkk
      left
      refine ⟨0, e, u, ?_, rfl, hk, hu, by simp [findB, hk, hu, keyN_V], fun j' e' h _ => by omega⟩
      have hd : decide ((k.1 : Int) = k.1 ∧ (k.2 : Int) = k.2) = true := by simp
      rw [hd] at hE
      unfold Instr.findAsking
      simp [Sem.run_bind, hE, hu]
    · have hd : decide ((k.1 : Int) = k'.1 ∧ (k.2 : Int) = k'.2) = false := decide_eq_false (fun h => hkk (Prod.ext (by omega) (by omega)))
      rw [hd] at hE
      have hne : keyN e.key ≠ some k := fun h' => hkk (by rw [hk, keyN_V] at h'; exact (Option.some.inj h').symm)
      have hr : (Instr.findAsking T (keyV k) (e :: es) i).run P w = (Instr.findAsking T (keyV k) es (i + 1)).run P w := by
        conv => lhs; unfold Instr.findAsking
        simp [Sem.run_bind, hE]
      rcases find_asking h k w es (i + 1) (fun e he => hes e (List.mem_cons_of_mem _ he)) with ⟨j, e', u', h1, h2, h3, h4, h5, h6⟩ | ⟨h1, h2, h3⟩
      · left
        refine ⟨j + 1, e', u', ?_, by simpa using h2, h3, h4, by simp only [findB, if_neg hne]; exact h5, fun j' e'' hj hj' => ?_⟩
        · rw [hr, h1]; congr 3; omega
        · cases j' with
          | zero => simp at hj'; subst hj'; exact hne
          | succ j' => exact h6 j' e'' (by omega) (by simpa using hj')
      · right
        refine ⟨by rw [hr, h1], by simp only [findB, if_neg hne]; exact h2, fun e' he' => ?_⟩
        rcases List.mem_cons.1 he' with rfl | he'
        · exact hne
        · exact h3 e' he'
theorem find_key (h : MapT P TM T E) (k : Nat × Nat) (w : World) (es : List MapEntry) (hes : ∀ e ∈ es, ∃ k v, e.key = keyV k ∧ e.val = .bool v) :
    (∃ (j : Nat) (e : MapEntry) (u : Bool), (Instr.findKey T (keyV k) es).run P w = .ok (some (j, .bool u)) w ∧ es[j]? = some e ∧ e.key = keyV k ∧ e.val = .bool u ∧ findB es k = u ∧ ∀ j' e', j' < j → es[j']? = some e' → keyN e'.key ≠ some k) ∨
    ((Instr.findKey T (keyV k) es).run P w = .ok none w ∧ findB es k = false ∧ ∀ e ∈ es, keyN e.key ≠ some k) := by
  obtain ⟨fs, hs⟩ := h.hs
  cases es with
  | nil =>
    right
    refine ⟨?_, rfl, fun e h => by simp at h⟩
    unfold Instr.findKey
    simp [Sem.run_bind, run_underlying hs, Instr.findNow]
  | cons e es =>
    obtain ⟨k', u, hk, hu⟩ := hes e (List.mem_cons_self ..)
    have hn : Instr.findNow (.struct fs) (keyV k) (e :: es) 0 = none := by
      unfold Instr.findNow
      rw [hk]; rfl
    have hr : (Instr.findKey T (keyV k) (e :: es)).run P w = (Instr.findAsking T (keyV k) (e :: es) 0).run P w := by
      unfold Instr.findKey
      simp only [Sem.run_bind, run_underlying hs, Result.andThen_ok, hn]
    rw [hr]
    have := find_asking h k w (e :: es) 0 hes
    simpa using this
theorem rn_lookupB {b : Nat} {f : Nat × Nat → Bool} {k : Nat × Nat} (h : MapT P TM T E) (hx : ev N ρ x = .map (some b)) (hy : ev N ρ y = keyV k) (hm : MapF w b f) : Rn P N ⟨d, .lookup TM x y false, t, p, a, g⟩ ρ w (.bool (f k)) w :=
  ⟨fun _ h => (by cases h), by
    obtain ⟨es, clock, h1, h2, h3⟩ := hm
    have hg : (getObj b).run P w = .ok (.map es clock) w := gobj h1
    have hc : (Instr.checkKey es.isEmpty 10000 T (keyV k)).run P w = .ok () w := h.hc es.isEmpty k.1 k.2 w
    have h4 := h3 k
    rcases find_key h k w es.toList h2 with ⟨j, e, u, g1, _, _, _, g5, _⟩ | ⟨g1, g2, _⟩
    · rw [← h4, g5]
      simp [execOp, hx, hy, Instr.lookup, Sem.run_bind, run_underlying h.ht, hg, hc, g1]
    · rw [← h4, g2]
      simp [execOp, hx, hy, Instr.lookup, Sem.run_bind, run_underlying h.ht, hg, hc, g1, h.hz]⟩
theorem findB_modify (k : Nat × Nat) (u : Bool) : ∀ (es : List MapEntry) (j : Nat) (e : MapEntry), es[j]? = some e → e.key = keyV k → (∀ j' e', j' < j → es[j']? = some e' → keyN e'.key ≠ some k) → ∀ k', findB (es.modify j fun e => { e with key := keyV k, val := .bool u }) k' = if k' = k then u else findB es k'
  | [], j, e, h, _, _, _ => by simp at h
  | e0 :: es, 0, e, h, hk, _, k' => by
    simp at h
    subst h
    simp only [List.modify_zero_cons, findB, hk, keyN_V, Option.some.injEq]
    by_cases hkk : k' = k
    · subst hkk; simp
    · rw [if_neg (fun h => hkk h.symm), if_neg hkk, if_neg (fun h => hkk h.symm)]
  | e0 :: es, j + 1, e, h, hk, hn, k' => by
    have hne := hn 0 e0 (by omega) rfl
    simp only [List.modify_succ_cons, findB]
    have ih := findB_modify k u es j e (by simpa using h) hk (fun j' e' h1 h2 => hn (j' + 1) e' (by omega) (by simpa using h2)) k'
    rw [ih]
    by_cases hkk : k' = k
    · subst hkk; rw [if_neg hne, if_pos rfl, if_pos rfl]
    · rw [if_neg hkk]; simp only [if_neg hkk]
theorem findB_snoc (k : Nat × Nat) (u : Bool) (cl : Nat) : ∀ (es : List MapEntry), (∀ e ∈ es, keyN e.key ≠ some k) → ∀ k', findB (es ++ [{ key := keyV k, val := .bool u, born := cl }]) k' = if k' = k then u else findB es k'
  | [], _, k' => by
    simp only [List.nil_append, findB, keyN_V, Option.some.injEq]
    by_cases hkk : k' = k
    · subst hkk; simp
    · rw [if_neg hkk, if_neg (fun h => hkk h.symm)]
  | e :: es, h, k' => by
    have ih := findB_snoc k u cl es (fun e he => h e (List.mem_cons_of_mem _ he)) k'
    have hne := h e (List.mem_cons_self ..)
    simp only [List.cons_append, findB, ih]
    by_cases hkk : k' = k
    · subst hkk; rw [if_neg hne, if_pos rfl, if_pos rfl]
    · rw [if_neg hkk]; simp only [if_neg hkk]
theorem sameBits_key (k : Nat × Nat) : Instr.sameBits 10000 (keyV k) (keyV k) = true := by
  unfold keyV
  show Instr.sameBits (9999 + 1) _ _ = true
  simp [Instr.sameBits]
theorem fr_setObj {es : Array MapEntry} {clock b : Nat} (h : w.heap[b]? = some (.map es clock)) (o : Obj) : Fr (· = b) w { w with heap := w.heap.setIfInBounds b o } :=
  ⟨rfl, rfl, rfl, by simp, fun k _ hk => by show (w.heap.setIfInBounds b o)[k]? = _; rw [Array.getElem?_setIfInBounds_ne (Ne.symm hk)]⟩
theorem sk_update {b : Nat} {f : Nat × Nat → Bool} {k : Nat × Nat} {u : Bool} (h : MapT P TM T E) (hx : ev N ρ x = .map (some b)) (hy : ev N ρ y = keyV k) (hz : ev N ρ z = .bool u) (hm : MapF w b f) :
    ∃ w', Sk P N ⟨d, .mapUpdate TM x y z, t, p, a, g⟩ ρ w w' ∧ Fr (· = b) w w' ∧ MapF w' b (fun k' => if k' = k then u else f k') := by
  obtain ⟨es, clock, h1, h2, h3⟩ := hm
  have hg : (getObj b).run P w = .ok (.map es clock) w := gobj h1
  have hc : (Instr.checkKey false 10000 T (keyV k)).run P w = .ok () w := h.hc false k.1 k.2 w
  have hlt := (Array.getElem?_eq_some_iff.1 h1).1
  rcases find_key h k w es.toList h2 with ⟨j, e, u', g1, g2, g3, g4, g5, g6⟩ | ⟨g1, g2, g3⟩
  · have hj : es[j]? = some e := by rw [← Array.getElem?_toList]; exact g2
    have hst : (Instr.keyThatStays (((es[j]?).map (·.key)).getD (keyV k)) (keyV k)).run P w = .ok (keyV k) w := by
      rw [hj]; simp [Instr.keyThatStays, g3, sameBits_key]
    have hset := sobj (P := P) (.map (es.modify j fun e => { e with key := keyV k, val := .bool u }) clock) h1
    refine ⟨_, ⟨fun _ h => (by cases h), ?_⟩, fr_setObj h1 (.map (es.modify j fun e => { e with key := keyV k, val := .bool u }) clock), ?_⟩
    · simp [execOp, hx, hy, hz, Instr.mapUpdate, Sem.run_bind, run_underlying h.ht, hg, hc, g1, hst, hset]
    · refine ⟨_, _, by show (w.heap.setIfInBounds b _)[b]? = _; rw [Array.getElem?_setIfInBounds_self_of_lt hlt], ?_, fun k' => ?_⟩
      · intro e' he'
        rw [Array.toList_modify] at he'
        obtain ⟨i, hi⟩ := List.getElem?_of_mem he'
        rw [List.getElem?_modify] at hi
        cases hq : es.toList[i]? with
        | none => rw [hq] at hi; simp at hi
        | some e1 =>
          rw [hq] at hi
          simp only [Option.map_eq_map, Option.map_some, Option.some.injEq] at hi
          by_cases hij : j = i
          · rw [if_pos hij] at hi; subst hi; exact ⟨k, u, rfl, rfl⟩
          · rw [if_neg hij] at hi; subst hi; exact h2 e1 (List.mem_of_getElem? hq)
      · rw [Array.toList_modify, findB_modify k u es.toList j e g2 g3 g6 k', h3 k']
  · have hset := sobj (P := P) (.map (es.push { key := keyV k, val := .bool u, born := clock }) (clock + 1)) h1
    refine ⟨_, ⟨fun _ h => (by cases h), ?_⟩, fr_setObj h1 (.map (es.push { key := keyV k, val := .bool u, born := clock }) (clock + 1)), ?_⟩
    · simp [execOp, hx, hy, hz, Instr.mapUpdate, Sem.run_bind, run_underlying h.ht, hg, hc, g1, hset]
    · refine ⟨_, _, by show (w.heap.setIfInBounds b _)[b]? = _; rw [Array.getElem?_setIfInBounds_self_of_lt hlt], ?_, fun k' => ?_⟩
      · intro e' he'
        rw [Array.toList_push] at he'
        rcases List.mem_append.1 he' with he' | he'
        · exact h2 e' he'
        · rw [List.mem_singleton.1 he']; exact ⟨k, u, rfl, rfl⟩
      · rw [Array.toList_push, findB_snoc k u clock es.toList g3 k', h3 k']
variable {r : Option Nat} {ds : List Deferred} {lo rest : List Oper} {K : (Nat → Value) → World → Prop}
theorem lx_update {b : Nat} {f : Nat × Nat → Bool} {k : Nat × Nat} {u : Bool} (hw : Want N lo ⟨d, .mapUpdate TM x y z, t, p, a, g⟩ ρ true) (h : MapT P TM T E) (hx : ev N ρ x = .map (some b)) (hy : ev N ρ y = keyV k) (hz : ev N ρ z = .bool u) (hm : MapF w b f)
    (kk : ∀ w', Fr (· = b) w w' → MapF w' b (fun k' => if k' = k then u else f k') → LX r P N ds lo K rest (up ρ d undef) w') : LX r P N ds lo K (⟨d, .mapUpdate TM x y z, t, p, a, g⟩ :: rest) ρ w := by
  obtain ⟨w', h1, h2, h3⟩ := sk_update (d := d) (t := t) (p := p) (a := a) (g := g) h hx hy hz hm
  exact lx_store hw h1 (kk w' h2 h3)
theorem lx_makeMap (hw : Want N lo ⟨d, .makeMap TM none, t, p, a, g⟩ ρ true) (kk : ∀ b w', b = w.heap.size → Ext w w' → MapF w' b (fun _ => false) → LX r P N ds lo K rest (up ρ d (.map (some b))) w') :
    LX r P N ds lo K (⟨d, .makeMap TM none, t, p, a, g⟩ :: rest) ρ w := by
  refine lx_value hw (v := .map (some w.heap.size)) (w' := w.alloc (.map #[] 0)) ⟨fun _ h => (by cases h), ?_⟩ (kk _ _ rfl (ext_alloc _ _) ⟨#[], 0, World.alloc_heap_new w _, fun e h => by simp at h, fun k => rfl⟩)
  simp [execOp, Instr.makeMap, Sem.run_bind, run_newObj_alloc]
end
end Go.Eng

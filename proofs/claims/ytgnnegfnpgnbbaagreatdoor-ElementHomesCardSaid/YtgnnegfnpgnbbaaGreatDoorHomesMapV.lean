/- Maps whose keys are integers or strings. No program stands here. -/
import Derived.Test.YtgnnegfnpgnbbaaGreatDoorHomesMap
set_option linter.unusedVariables false
set_option linter.unusedSimpArgs false
namespace Go.Eng
open Go Go.RowKit Go.Mix
/-- a kind of keys: what a key's value is, and that keys are told apart at once -/
structure KeyK {κ : Type} [DecidableEq κ] (kv : κ → Value) (kd : TypeDesc) : Prop where
  same : ∀ a b, Instr.sameNow kd (kv a) (kv b) = some (decide (a = b))
  bits : ∀ a, Instr.sameBits 10000 (kv a) (kv a) = true
def kS (s : ByteArray) : Value := .string s
theorem ba_beq (a b : ByteArray) : (a == b) = decide (a = b) := by
  cases a with | mk a => cases b with | mk b =>
  show (a == b) = _
  by_cases h : a = b
  · subst h; simp
  · rw [decide_eq_false (by intro hh; exact h (ByteArray.mk.inj hh))]; simp [h]
theorem kS_key : KeyK kS .string := ⟨fun a b => by
  unfold kS Instr.sameNow
  simp only [Option.some.injEq]
  exact ba_beq a b, fun a => by
  unfold kS
  show (a == a) = true
  rw [ba_beq]; exact decide_eq_true rfl⟩
section
variable {κ : Type} [DecidableEq κ]
/-- the entries, as pairs -/
def Ents (kv : κ → Value) (es : List MapEntry) (l : List (κ × Value)) : Prop := es.map (fun e => (e.key, e.val)) = l.map fun p => (kv p.1, p.2)
def getL (l : List (κ × Value)) (k : κ) : Option Value := (l.find? fun p => decide (p.1 = k)).map (·.2)
/-- The map in block b reads as f. -/
def MapV (w : World) (b : Nat) (kv : κ → Value) (f : κ → Option Value) : Prop :=
  ∃ es clock l, w.heap[b]? = some (.map es clock) ∧ Ents kv es.toList l ∧ ∀ k, getL l k = f k
variable {w w' : World} {b c : Nat} {kv : κ → Value} {f : κ → Option Value}
theorem MapV.lt (h : MapV w b kv f) : b < w.heap.size := by obtain ⟨es, clock, l, h1, _⟩ := h; exact (Array.getElem?_eq_some_iff.1 h1).1
theorem MapV.fr {S : Nat → Prop} (h : MapV w b kv f) (k : Fr S w w') (hs : ¬ S b) : MapV w' b kv f := by
  have hl := h.lt
  obtain ⟨es, clock, l, h1, h2, h3⟩ := h
  exact ⟨es, clock, l, (k.block b hl hs).trans h1, h2, h3⟩
theorem MapV.ext (h : MapV w b kv f) (k : Ext w w') : MapV w' b kv f := h.fr k (fun hn => hn)
theorem MapV.ne (h : MapV w b kv f) (k : Fr (· = c) w w') (hn : b ≠ c) : MapV w' b kv f := h.fr k hn
theorem MapV.of (h : MapV w b kv f) {f' : κ → Option Value} (he : ∀ k, f k = f' k) : MapV w b kv f' := by
  obtain ⟨es, clock, l, h1, h2, h3⟩ := h
  exact ⟨es, clock, l, h1, h2, fun k => (h3 k).trans (he k)⟩
omit [DecidableEq κ] in
theorem ents_cons {e : MapEntry} {es : List MapEntry} {l : List (κ × Value)} (h : Ents kv (e :: es) l) : ∃ p l', l = p :: l' ∧ e.key = kv p.1 ∧ e.val = p.2 ∧ Ents kv es l' := by
  cases l with
  | nil => unfold Ents at h; simp at h
  | cons p l' =>
    unfold Ents at h
    simp only [List.map_cons, List.cons.injEq, Prod.mk.injEq] at h
    exact ⟨p, l', rfl, h.1.1, h.1.2, h.2⟩
theorem find_now {kd : TypeDesc} (hk : KeyK kv kd) (k : κ) : ∀ (es : List MapEntry) (l : List (κ × Value)) (i : Nat), Ents kv es l →
    (∃ j v, Instr.findNow kd (kv k) es i = some (some (i + j, v)) ∧ getL l k = some v ∧ (∃ e, es[j]? = some e ∧ e.key = kv k) ∧ l[j]? = some (k, v) ∧ ∀ j' p, j' < j → l[j']? = some p → p.1 ≠ k) ∨
    (Instr.findNow kd (kv k) es i = some none ∧ getL l k = none ∧ ∀ p ∈ l, p.1 ≠ k)
  | [], l, i, h => by
    right
    have : l = [] := by unfold Ents at h; cases l with | nil => rfl | cons p l => simp at h
    subst this
    exact ⟨by simp [Instr.findNow], rfl, fun p h => by cases h⟩
  | e :: es, l, i, h => by
    obtain ⟨p, l', rfl, h1, h2, h3⟩ := ents_cons h
    have hs := hk.same k p.1
    rw [← h1] at hs
    by_cases hkp : k = p.1
    · left
      refine ⟨0, p.2, ?_, by unfold getL; simp [hkp], ⟨e, rfl, by rw [h1, hkp]⟩, by simp [hkp], fun j' p' hj => by omega⟩
      unfold Instr.findNow
      rw [hs, decide_eq_true hkp]; simp [h2]
    · rw [decide_eq_false hkp] at hs
      have hne : p.1 ≠ k := fun h => hkp h.symm
      have hg : getL (p :: l') k = getL l' k := by unfold getL; rw [List.find?_cons, decide_eq_false hne]
      have hf : Instr.findNow kd (kv k) (e :: es) i = Instr.findNow kd (kv k) es (i + 1) := by
        conv => lhs; unfold Instr.findNow
        rw [hs]
      rw [hf, hg]
      rcases find_now hk k es l' (i + 1) h3 with ⟨j, v, g1, g2, ⟨e', g3, g3'⟩, g4, g5⟩ | ⟨g1, g2, g3⟩
      · left
        refine ⟨j + 1, v, by rw [g1, Nat.add_assoc, Nat.add_comm 1 j], g2, ⟨e', by simpa using g3, g3'⟩, by simpa using g4, fun j' p' hj hp => ?_⟩
        cases j' with
        | zero => simp at hp; subst hp; exact hne
        | succ j' => exact g5 j' p' (by omega) (by simpa using hp)
      · right
        refine ⟨g1, g2, fun p' hp => ?_⟩
        rcases List.mem_cons.1 hp with rfl | hp
        · exact hne
        · exact g3 p' hp
/-- what the program says of a map's types -/
structure MapVT (P : Program) (TM T E : TypeId) (kv : κ → Value) (z : Value) : Prop where
  ht : P.underlying TM = some (.map T E)
  hz : ∀ w, (zeroValue E).run P w = .ok z w
  kd : ∃ kd, P.underlying T = some kd ∧ KeyK kv kd
  hc : ∀ (e : Bool) (k : κ) w, (Instr.checkKey e 10000 T (kv k)).run P w = .ok () w
variable {P : Program} {N : Nat} {ρ : Nat → Value} {v : Value} {d : Option Tmp} {t : TypeId} {p : String} {a : Array Edge} {g : Option (Nat × Bool)}
variable {x y z : Operand} {T E TM : TypeId} {zv : Value} {k : κ}
theorem find_run (h : MapVT P TM T E kv zv) {es : List MapEntry} {l : List (κ × Value)} (he : Ents kv es l) (k : κ) (w : World) :
    (∃ j v, (Instr.findKey T (kv k) es).run P w = .ok (some (j, v)) w ∧ getL l k = some v ∧ (∃ e, es[j]? = some e ∧ e.key = kv k) ∧ l[j]? = some (k, v) ∧ ∀ j' p, j' < j → l[j']? = some p → p.1 ≠ k) ∨
    ((Instr.findKey T (kv k) es).run P w = .ok none w ∧ getL l k = none ∧ ∀ p ∈ l, p.1 ≠ k) := by
  obtain ⟨kd, hkd, hk⟩ := h.kd
  rcases find_now hk k es l 0 he with ⟨j, v, g1, g2, g3, g4, g5⟩ | ⟨g1, g2, g3⟩
  · left
    refine ⟨j, v, ?_, g2, g3, g4, g5⟩
    unfold Instr.findKey
    rw [Sem.run_bind, run_underlying hkd]
    simp only [Result.andThen_ok, g1, Nat.zero_add, Sem.run_pure]
  · right
    refine ⟨?_, g2, g3⟩
    unfold Instr.findKey
    rw [Sem.run_bind, run_underlying hkd]
    simp only [Result.andThen_ok, g1, Sem.run_pure]
variable {r : Option Nat} {ds : List Deferred} {lo rest : List Oper} {K : (Nat → Value) → World → Prop} {u : Value}
theorem run_makeMap0 : ∀ w, (execOp (ev N ρ) ⟨d, .makeMap TM none, t, p, a, g⟩).run P w = .ok (.value (.map (some w.heap.size))) (w.alloc (.map #[] 0)) := fun w => by
  simp [execOp, Instr.makeMap, Sem.run_bind, run_newObj_alloc]
end
end Go.Eng

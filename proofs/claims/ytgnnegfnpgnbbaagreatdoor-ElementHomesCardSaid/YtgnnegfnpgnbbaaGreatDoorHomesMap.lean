/- Maps whose keys are pairs of numbers and whose values are truth values. No program stands here. -/
import Derived.Test.YtgnnegfnpgnbbaaGreatDoorHomesNum
import Derived.Laws.NewFold
set_option linter.unusedVariables false
set_option linter.unusedSimpArgs false
namespace Go.Eng
open Go Go.RowKit Go.Mix
def keyV (k : Nat × Nat) : Value := .agg #[.int .i64 (k.1 : Nat), .int .i64 (k.2 : Nat)]
def keyN (v : Value) : Option (Nat × Nat) :=
  match v with
  | .agg cs => (match cs.toList with
    | [.int .i64 a, .int .i64 b] => some (a.toNat, b.toNat)
    | _ => none)
  | _ => none
/-- what the first entry of a key says; false if there is none -/
def findB : List MapEntry → Nat × Nat → Bool
  | [], _ => false
  | e :: es, k => if keyN e.key = some k then (match e.val with | .bool b => b | _ => false) else findB es k
/-- The map in block b reads as f. -/
def MapF (w : World) (b : Nat) (f : Nat × Nat → Bool) : Prop :=
  ∃ es clock, w.heap[b]? = some (.map es clock) ∧ (∀ e ∈ es.toList, ∃ k v, e.key = keyV k ∧ e.val = .bool v) ∧ ∀ k, findB es.toList k = f k
section
variable {w w' : World} {b c : Nat} {f : Nat × Nat → Bool}
theorem MapF.lt (h : MapF w b f) : b < w.heap.size := by obtain ⟨es, clock, h1, _⟩ := h; exact (Array.getElem?_eq_some_iff.1 h1).1
theorem MapF.fr {S : Nat → Prop} (h : MapF w b f) (k : Fr S w w') (hs : ¬ S b) : MapF w' b f := by
  have hl := h.lt
  obtain ⟨es, clock, h1, h2, h3⟩ := h
  exact ⟨es, clock, (k.block b hl hs).trans h1, h2, h3⟩
theorem MapF.ext (h : MapF w b f) (k : Ext w w') : MapF w' b f := h.fr k (fun hn => hn)
theorem MapF.ne (h : MapF w b f) (k : Fr (· = c) w w') (hn : b ≠ c) : MapF w' b f := h.fr k hn
theorem MapF.of (h : MapF w b f) {f' : Nat × Nat → Bool} (he : ∀ k, f k = f' k) : MapF w b f' := by
  obtain ⟨es, clock, h1, h2, h3⟩ := h
  exact ⟨es, clock, h1, h2, fun k => (h3 k).trans (he k)⟩
end
section
variable {P : Program} {N : Nat} {ρ : Nat → Value} {w w' : World} {v : Value} {d : Option Tmp} {t : TypeId} {p : String} {a : Array Edge} {g : Option (Nat × Bool)}
variable {x y z : Operand} {T E TM : TypeId}
theorem equal_of_bin {X Y : Array Value} {b : Bool} (h : (binOp .eql T (.agg X) (.agg Y)).run P w = .ok (.bool b) w) : (Op.equal T (.agg X) (.agg Y)).run P w = .ok b w := by
  have hX : binOp .eql T (.agg X) (.agg Y) = (do pure (.bool (← Op.equal T (.agg X) (.agg Y)))) := by unfold binOp; rfl
  rw [hX, Sem.run_bind] at h
  cases hr : (Op.equal T (.agg X) (.agg Y)).run P w with
  | ok c w' =>
    rw [hr] at h
    simp only [Result.andThen_ok, Sem.run_pure, Result.ok.injEq, Value.bool.injEq] at h
    rw [h.1, h.2]
  | _ => rw [hr] at h; simp [Result.andThen] at h
theorem gobj {es : Array MapEntry} {clock b : Nat} (h : w.heap[b]? = some (.map es clock)) : (getObj b).run P w = .ok (.map es clock) w := by simp [getObj, Sem.run, h]
theorem sobj {es : Array MapEntry} {clock b : Nat} (o : Obj) (h : w.heap[b]? = some (.map es clock)) : (setObj b o).run P w = .ok () { w with heap := w.heap.setIfInBounds b o } := by simp [setObj, Sem.run, h]
theorem fr_setObj {es : Array MapEntry} {clock b : Nat} (h : w.heap[b]? = some (.map es clock)) (o : Obj) : Fr (· = b) w { w with heap := w.heap.setIfInBounds b o } :=
  ⟨rfl, rfl, rfl, by simp, fun k _ hk => by show (w.heap.setIfInBounds b o)[k]? = _; rw [Array.getElem?_setIfInBounds_ne (Ne.symm hk)]⟩
variable {r : Option Nat} {ds : List Deferred} {lo rest : List Oper} {K : (Nat → Value) → World → Prop}
end
end Go.Eng

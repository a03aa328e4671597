/- Ranges over functions: the record of such a loop, its rounds, the function that holds one, and the call of yield. No program stands here. -/
import Derived.Test.YtnhgfmbmfjmonaaGreatDoorNamesTab
import Derived.RangeFuncRecord
set_option linter.unusedVariables false
set_option linter.unusedSimpArgs false
namespace Go.Eng
open Go Go.RowKit Go.Mix
/-- what lies in a block -/
def At (w : World) (b : Nat) (o : Obj) : Prop := w.heap[b]? = some o
section
variable {w w' : World} {b c : Nat} {o : Obj}
theorem At.lt (h : At w b o) : b < w.heap.size := (Array.getElem?_eq_some_iff.1 h).1
theorem At.fr {S : Nat → Prop} (h : At w b o) (k : Fr S w w') (hs : ¬ S b) : At w' b o := (k.block b h.lt hs).trans h
theorem At.ext (h : At w b o) (k : Ext w w') : At w' b o := h.fr k (fun hn => hn)
theorem At.ne (h : At w b o) (k : Fr (· = c) w w') (hn : b ≠ c) : At w' b o := h.fr k hn
end
def mark (db : Nat) : Deferred := { target := .collected db, args := #[] }
/-- A call of yield, in the world w: it hands back a truth value, and R holds. -/
def Yd (P : Program) (l : Nat) (vs : List Value) (w : World) (R : Bool → World → Prop) : Prop :=
  ∃ f tmps A B, (Instr.yield l vs.toArray).run P w = .ok (.round l f tmps A B) w ∧ RoundIn (FR none) 0 P l f tmps A B w (fun e w' => ∃ b, e = .returned (.bool b) ∧ R b w')
theorem Yd.mono {P : Program} {l : Nat} {vs : List Value} {w : World} {R R' : Bool → World → Prop} (h : Yd P l vs w R) (hr : ∀ b w', R b w' → R' b w') : Yd P l vs w R' := by
  obtain ⟨f, tmps, A, B, h1, h2⟩ := h
  exact ⟨f, tmps, A, B, h1, h2.mono fun e w' ⟨b, he, hR⟩ => ⟨b, he, hr b w' hR⟩⟩
section
variable {P : Program} {N : Nat} {ρ : Nat → Value} {w w' : World} {v : Value} {r : Option Nat} {ds : List Deferred} {lo rest : List Oper} {K : (Nat → Value) → World → Prop} {d : Option Tmp} {t : TypeId} {p : String} {a : Array Edge} {g : Option (Nat × Bool)}
@[reducible] def bodyK (RC : LoopState → Option Code → Obj) (l : Nat) (R : Bool → World → Prop) : Cont
  | .normal, _, _, w => At w l (RC .busy none) ∧ ∀ w', Fr (· = l) w w' → At w' l (RC .ready none) → R true w'
  | .ret, _, _, w => At w l (RC .busy none) ∧ ∀ w', Fr (· = l) w w' → At w' l (RC .done (some .ret)) → R false w'
  | _, _, _, _ => False
/-- how the function that was ranged over may end -/
def Out (C : Cont) (ds : List Deferred) (RC : LoopState → Option Code → Obj) (ρ : Nat → Value) (db l : Nat) (w : World) : Prop :=
  (At w l (RC .ready none) ∧ ∀ w3, Fr (· = l) w w3 → C .normal (mark db :: ds) ρ w3) ∨
  (At w l (RC .done (some .ret)) ∧ ∀ w3, Fr (· = l) w w3 → C .ret (mark db :: ds) ρ w3)
variable {fn : Func} {S : Nat → Prop} {R : Value → World → Prop} {w0 : World}
theorem retN {ds : List Deferred} (h : retK P fn N S R w0 .ret ds ρ w) : retK P fn N S R w0 .normal ds ρ w := h
end
end Go.Eng

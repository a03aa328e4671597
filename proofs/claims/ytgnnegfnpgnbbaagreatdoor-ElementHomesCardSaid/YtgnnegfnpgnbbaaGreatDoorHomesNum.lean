/- More operations: unsigned numbers, conversions, elements of arrays, a slice held against nil. No program stands here. -/
import Derived.Test.YtgnnegfnpgnbbaaGreatDoorHomesRng
set_option linter.unusedVariables false
set_option linter.unusedSimpArgs false
namespace Go.Eng
open Go Go.RowKit Go.Mix
section
variable {P : Program} {N : Nat} {ρ : Nat → Value} {w w' : World} {v : Value} {d : Option Tmp} {t : TypeId} {p : String} {a : Array Edge} {g : Option (Nat × Bool)}
variable {x y : Operand} {T Ty : TypeId} {k : IntKind} {m n : Int}
/-- a slice held against nil -/
theorem rn_eqlNil {E : TypeId} {s : Option Addr} {l c : Nat} (ht : P.underlying T = some (.slice E)) (hx : ev N ρ x = .slice s l c) (hy : ev N ρ y = .slice none 0 0) :
    Rn P N ⟨d, .binOp .eql T x y Ty, t, p, a, g⟩ ρ w (.bool s.isNone) w :=
  ⟨fun _ h => (by cases h), by
    have he : (eqGuard .eql T x y (.slice s l c) (.slice none 0 0)).run P w = .ok () w := by unfold eqGuard; simp
    have h : (Op.equal T (.slice s l c) (.slice none 0 0)).run P w = .ok s.isNone w := by
      show (Op.equalIn (9999 + 1) T (.slice s l c) (.slice none 0 0)).run P w = _
      unfold Op.equalIn
      rw [Sem.run_bind, run_underlying ht]
      cases s <;> simp only [Result.andThen_ok, Sem.run_pure] <;> rfl
    have hb : binOp .eql T (.slice s l c) (.slice none 0 0) = (do pure (.bool (← Op.equal T (.slice s l c) (.slice none 0 0)))) := by unfold binOp; rfl
    simp only [execOp, hx, hy, Sem.run_bind, he, Result.andThen_ok, hb, h, Sem.run_pure]⟩
end
end Go.Eng

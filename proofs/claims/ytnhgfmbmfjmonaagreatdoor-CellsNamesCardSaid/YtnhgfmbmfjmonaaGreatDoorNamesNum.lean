/- More operations: unsigned numbers, conversions, elements of arrays, a slice held against nil. No program stands here. -/
import Derived.Test.YtnhgfmbmfjmonaaGreatDoorNamesRng
set_option linter.unusedVariables false
set_option linter.unusedSimpArgs false
namespace Go.Eng
open Go Go.RowKit Go.Mix
section
variable {P : Program} {N : Nat} {ρ : Nat → Value} {w w' : World} {v : Value} {d : Option Tmp} {t : TypeId} {p : String} {a : Array Edge} {g : Option (Nat × Bool)}
variable {x y : Operand} {T Ty : TypeId} {k : IntKind} {m n : Int}
def bandI (k : IntKind) (m n : Int) : Int := k.wrap ((BitVec.ofInt k.bits m &&& BitVec.ofInt k.bits n).toNat : Nat)
theorem rnU_and (hx : ev N ρ x = .int k m) (hy : ev N ρ y = .int k n) : Rn P N ⟨d, .binOp .and T x y Ty, t, p, a, g⟩ ρ w (.int k (bandI k m n)) w := rn_bin hx hy (by simp [binOp, Op.intBits, bandI])
theorem rnU_add (hx : ev N ρ x = .int k m) (hy : ev N ρ y = .int k n) : Rn P N ⟨d, .binOp .add T x y Ty, t, p, a, g⟩ ρ w (.int k (k.wrap (m + n))) w := rn_bin hx hy (by simp [binOp, Op.intArith])
theorem rnU_mul (hx : ev N ρ x = .int k m) (hy : ev N ρ y = .int k n) : Rn P N ⟨d, .binOp .mul T x y Ty, t, p, a, g⟩ ρ w (.int k (k.wrap (m * n))) w := rn_bin hx hy (by simp [binOp, Op.intArith])
theorem rnU_shr {yk : IntKind} (hx : ev N ρ x = .int k m) (hy : ev N ρ y = .int yk n) (h : 0 ≤ n) : Rn P N ⟨d, .binOp .shr T x y Ty, t, p, a, g⟩ ρ w (.int k (m.fdiv (2 ^ min n.toNat k.bits))) w :=
  ⟨fun _ h => (by cases h), by
    have he : (eqGuard .shr T x y (.int k m) (.int yk n)).run P w = .ok () w := by unfold eqGuard; simp
    simp only [execOp, hx, hy, binOp, Op.shift, Sem.run_bind, he, Result.andThen_ok, if_neg (show ¬ n < 0 by omega), Sem.run_pure]⟩
theorem rn_conv {ks kd kx : IntKind} {m' : Int} (hs : P.underlying T = some (.int ks)) (hd : P.underlying Ty = some (.int kd)) (hx : ev N ρ x = .int kx m) (h : kd.wrap m = m') : Rn P N ⟨d, .convert T Ty x, t, p, a, g⟩ ρ w (.int kd m') w :=
  ⟨fun _ h => (by cases h), by subst h; simp [execOp, hx, convert, run_underlying hs, run_underlying hd, Conv.intToInt]⟩
theorem wrap64_nat {m : Nat} (h : m < 9223372036854775808) : IntKind.i64.wrap (m : Int) = (m : Int) := wrap64_in (by omega) (by omega)
theorem wrapU64_nat {m : Nat} (h : m < 18446744073709551616) : IntKind.u64.wrap (m : Int) = (m : Int) := by
  simp only [IntKind.wrap, IntKind.bits, IntKind.signed, Bool.false_and, Bool.false_eq_true, if_false]
  omega
/-- a slice held against nil -/
theorem rn_eqlNil {E : TypeId} {s : Option Addr} {l c : Nat} (ht : P.underlying T = some (.slice E)) (hx : ev N ρ x = .slice s l c) (hy : ev N ρ y = .slice none 0 0) :
    Rn P N ⟨d, .binOp .eql T x y Ty, t, p, a, g⟩ ρ w (.bool s.isNone) w :=
  ⟨fun _ h => (by cases h), by
    have he : (eqGuard .eql T x y (.slice s l c) (.slice none 0 0)).run P w = .ok () w := by unfold eqGuard; simp
    have h : (Op.equal T (.slice s l c) (.slice none 0 0)).run P w = .ok s.isNone w := by
      show (Op.equalIn (9999 + 1) T (.slice s l c) (.slice none 0 0)).run P w = _
      unfold Op.equalIn
      rw [Sem.run_bind, run_underlying ht]
      cases s <;> simp only [Result.andThen_ok, Sem.run_pure] <;> rfl
    have hb : binOp .eql T (.slice s l c) (.slice none 0 0) = (do pure (.bool (← Op.equal T (.slice s l c) (.slice none 0 0)))) := by unfold binOp; rfl
    simp only [execOp, hx, hy, Sem.run_bind, he, Result.andThen_ok, hb, h, Sem.run_pure]⟩
end
end Go.Eng

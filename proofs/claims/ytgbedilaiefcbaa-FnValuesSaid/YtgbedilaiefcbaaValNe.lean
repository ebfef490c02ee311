/-
  Two values with the same fields are not unequal. No condition beyond those written in each theorem.
-/
import Derived.Test.YtgbedilaiefcbaaValDraw
namespace Go.Proofs.Ytgbedilaiefcbaa
open Go.RowKit
set_option linter.unusedVariables false
set_option linter.unusedSimpArgs false
set_option linter.unusedSectionVars false
set_option maxRecDepth 4000

theorem eq37 (w : World) (a b : ByteArray) : (Op.equalIn 10000 37 (.agg #[.string a, .string b]) (.agg #[.string a, .string b])).run Try.prog w = .ok true w := by
  have h1 : Try.prog.underlying 37 = some (.struct (Try.prog.fieldsOf 37)) := by rw [Program.fieldsOf, Try.underlying37]
  rw [run_equalIn_struct w 9999 37 _ _ h1 (by kernel_rfl)]
  simp only [Program.fieldsOf, Try.underlying37]
  simp [Op.eqFields, part, run_equalIn_string, Try.underlying9]
theorem xneq37 {N : Nat} {σ : Env} {w : World} {d : Option Tmp} {ty : TypeId} {pos : String} {aft : Array Edge} {gd : Option (Nat × Bool)} {x y : Operand} {u : TypeId} {a b : ByteArray}
    (hx : ev σ x = some (.agg #[.string a, .string b])) (hy : ev σ y = some (.agg #[.string a, .string b])) : XV Try.prog N σ ⟨d, .binOp .neq 37 x y u, ty, pos, aft, gd⟩ w (.bool (decide (1 = 0))) w := fun e he => by
  simp [execOp, he.eval hx, he.eval hy, run_eqGuard_agg (P := Try.prog) w .neq 37 x y _ _ (by kernel_rfl), run_neq_struct, eq37, Result.andThen]
end Go.Proofs.Ytgbedilaiefcbaa

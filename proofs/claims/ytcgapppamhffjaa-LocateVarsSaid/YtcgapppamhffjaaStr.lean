/- Strings: comparing, length. -/
import Derived.Test.YtcgapppamhffjaaOps
import Derived.Lib.SlicesS
namespace Go.XK
open Go.RowKit
section
variable {P : Program} {env : List (Nat × Value)} {d : Option Tmp} {ty : TypeId} {pos : String} {af : Array Edge} {g : Option (Nat × Bool)} {T T' : TypeId} {x y : Operand} {a b : ByteArray}
theorem run_seql (w : World) : (binOp .eql T (.string a) (.string b)).run P w = .ok (.bool (decide (a = b))) w := by
  rw [binOp_string_eql, Sem.run_pure]
  have : (a.toList == b.toList) = decide (a = b) := by rw [Bool.eq_iff_iff, Lib.bytes_beq_iff, decide_eq_true_eq]
  rw [this]
theorem run_sneq (w : World) : (binOp .neq T (.string a) (.string b)).run P w = .ok (.bool (!decide (a = b))) w := by
  rw [binOp_string_neq, Sem.run_pure]
  have : (a.toList == b.toList) = decide (a = b) := by rw [Bool.eq_iff_iff, Lib.bytes_beq_iff, decide_eq_true_eq]
  rw [this]
theorem Sil.seql (hx : ev env x = some (.string a)) (hy : ev env y = some (.string b)) : Sil P env ⟨d, .binOp .eql T x y T', ty, pos, af, g⟩ (.bool (decide (a = b))) := fun act N ha w => by
  simp only [execOp, ha.ev hx, ha.ev hy, eqGuard_at_string, Sem.run_bind, Sem.run_pure, Result.andThen_ok, run_seql]
  exact ⟨rfl, rfl⟩
theorem Sil.sneq (hx : ev env x = some (.string a)) (hy : ev env y = some (.string b)) : Sil P env ⟨d, .binOp .neq T x y T', ty, pos, af, g⟩ (.bool (!decide (a = b))) := fun act N ha w => by
  simp only [execOp, ha.ev hx, ha.ev hy, eqGuard_at_string, Sem.run_bind, Sem.run_pure, Result.andThen_ok, run_sneq]
  exact ⟨rfl, rfl⟩
theorem Sil.lenStr (h : P.underlying T = some .string) (hx : ev env x = some (.string a)) : Sil P env ⟨d, .call ⟨.builtin .len, #[x], #[T]⟩, ty, pos, af, g⟩ (.int .i64 a.size) := fun act N ha w => by
  simp [execOp, resolve, invoke, builtin, ha.ev hx, Builtin.len_, run_underlying h, silUpon, goInt]
end
end Go.XK

/-
  The pure statement of FnExactMulRange (printed Lean functions). Conditions: none beyond the statement's own.
-/
import Derived.Test.YtemigniflobdcaaDoorQx13
import Derived.Test.YtemigniflobdcaaDoorQx2
import Derived.Test.YtemigniflobdcaaDoorQx24
import Derived.Test.YtemigniflobdcaaDoorRngMul
namespace Go.Proofs.YtemigniflobdcaaDoor.Pure
open Go.RowKit Go.Proofs.YtemigniflobdcaaDoor.Q Go.Proofs.YtemigniflobdcaaDoorW.PrintWords Go.Proofs.YtemigniflobdcaaDoorW.PrintLast Go.Proofs.YtemigniflobdcaaDoor.Rng

theorem FnExactMulRange (a b c d : Int) (_ : (Lit.int .i64 a).wf = true) (_ : (Lit.int .i64 b).wf = true) (_ : (Lit.int .i64 c).wf = true) (_ : (Lit.int .i64 d).wf = true) : ∃ k, laws_FnExactMulRange.f k a b c d = some true := by
  refine ⟨20, ?_⟩
  unfold laws_FnExactMulRange.f laws_toRange.f
  simp only [Option.bind_some]
  rw [spec_mul 20 (by omega)]
  simp only [Option.bind_some]
  rw [impl_mul]
  unfold laws_eqRange.f
  simp
end Go.Proofs.YtemigniflobdcaaDoor.Pure

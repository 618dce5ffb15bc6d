/-
  The pure statement of FnExactValidRange (printed Lean functions). Conditions: none beyond the statement's own.
-/
import Derived.Test.YtemigniflobdcaaDoorQx2
import Derived.Test.YtemigniflobdcaaDoorQx4
import Derived.Test.YtemigniflobdcaaDoorRngIn
namespace Go.Proofs.YtemigniflobdcaaDoor.Pure
open Go.RowKit Go.Proofs.YtemigniflobdcaaDoor.Q Go.Proofs.YtemigniflobdcaaDoorW.PrintWords Go.Proofs.YtemigniflobdcaaDoorW.PrintLast Go.Proofs.YtemigniflobdcaaDoor.Rng

theorem FnExactValidRange (a b : Int) (_ : (Lit.int .i64 a).wf = true) (_ : (Lit.int .i64 b).wf = true) : laws_FnExactValidRange.f a b = some true := by
  unfold laws_FnExactValidRange.f laws_toRange.f
  simp only [Option.bind_some]
  rw [spec_Valid]
  simp only [Option.bind_some]
  rw [impl_valid]
  simp
end Go.Proofs.YtemigniflobdcaaDoor.Pure

/-
  The pure statement of FnExactInRange (printed Lean functions). Conditions: none beyond the statement's own.
-/
import Derived.Test.YtemigniflobdcaaDoorQx2
import Derived.Test.YtemigniflobdcaaDoorQx7
import Derived.Test.YtemigniflobdcaaDoorRngIn
namespace Go.Proofs.YtemigniflobdcaaDoor.Pure
open Go.RowKit Go.Proofs.YtemigniflobdcaaDoor.Q Go.Proofs.YtemigniflobdcaaDoorW.PrintWords Go.Proofs.YtemigniflobdcaaDoorW.PrintLast Go.Proofs.YtemigniflobdcaaDoor.Rng

theorem FnExactInRange (a b n : Int) (_ : (Lit.int .i64 a).wf = true) (_ : (Lit.int .i64 b).wf = true) (_ : (Lit.int .i64 n).wf = true) : laws_FnExactInRange.f a b n = some true := by
  unfold laws_FnExactInRange.f laws_toRange.f
  simp only [Option.bind_some]
  rw [spec_in]
  simp only [Option.bind_some]
  rw [impl_in]
  simp
end Go.Proofs.YtemigniflobdcaaDoor.Pure

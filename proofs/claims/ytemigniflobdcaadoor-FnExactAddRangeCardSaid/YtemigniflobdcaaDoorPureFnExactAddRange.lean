/-
  The pure statement of FnExactAddRange (printed Lean functions). Conditions: none beyond the statement's own.
-/
import Derived.Test.YtemigniflobdcaaDoorQx13
import Derived.Test.YtemigniflobdcaaDoorQx14
import Derived.Test.YtemigniflobdcaaDoorQx2
import Derived.Test.YtemigniflobdcaaDoorRngAdd
namespace Go.Proofs.YtemigniflobdcaaDoor.Pure
open Go.RowKit Go.Proofs.YtemigniflobdcaaDoor.Q Go.Proofs.YtemigniflobdcaaDoorW.PrintWords Go.Proofs.YtemigniflobdcaaDoorW.PrintLast Go.Proofs.YtemigniflobdcaaDoor.Rng

theorem FnExactAddRange (a b c d : Int) (_ : (Lit.int .i64 a).wf = true) (_ : (Lit.int .i64 b).wf = true) (_ : (Lit.int .i64 c).wf = true) (_ : (Lit.int .i64 d).wf = true) : laws_FnExactAddRange.f a b c d = some true := by
  unfold laws_FnExactAddRange.f laws_toRange.f
  simp only [Option.bind_some]
  rw [spec_add]
  simp only [Option.bind_some]
  rw [impl_add]
  unfold laws_eqRange.f
  simp
end Go.Proofs.YtemigniflobdcaaDoor.Pure

/-
  The pure statement of FnExactDivRange (printed Lean functions). Conditions: none beyond the statement's own.
-/
import Derived.Test.YtemigniflobdcaaDoorQx13
import Derived.Test.YtemigniflobdcaaDoorQx2
import Derived.Test.YtemigniflobdcaaDoorQx21
import Derived.Test.YtemigniflobdcaaDoorRngDiv
namespace Go.Proofs.YtemigniflobdcaaDoor.Pure
open Go.RowKit Go.Proofs.YtemigniflobdcaaDoor.Q Go.Proofs.YtemigniflobdcaaDoorW.PrintWords Go.Proofs.YtemigniflobdcaaDoorW.PrintLast Go.Proofs.YtemigniflobdcaaDoor.Rng

theorem FnExactDivRange (a b c d : Int) (_ : (Lit.int .i64 a).wf = true) (_ : (Lit.int .i64 b).wf = true) (_ : (Lit.int .i64 c).wf = true) (_ : (Lit.int .i64 d).wf = true) : ∃ k, laws_FnExactDivRange.f k a b c d = some true := by
  refine ⟨20, ?_⟩
  unfold laws_FnExactDivRange.f laws_toRange.f
  simp only [Option.bind_some]
  rw [spec_div 20 (by omega)]
  simp only [Option.bind_some]
  rw [impl_div]
  unfold laws_eqRange.f
  simp
end Go.Proofs.YtemigniflobdcaaDoor.Pure

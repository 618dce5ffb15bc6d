/-
  The pure statement of FnExactPowRange (printed Lean functions). Conditions: none beyond the statement's own.
-/
import Derived.Test.YtenmpmanbkaabaaDoorQx5
import Derived.Test.YtenmpmanbkaabaaDoorQx7
import Derived.Test.YtenmpmanbkaabaaDoorQx9
import Derived.Test.YtenmpmanbkaabaaDoorPowLaws
namespace Go.Proofs.YtenmpmanbkaabaaDoor.Pure
open Go.RowKit Go.Proofs.YtenmpmanbkaabaaDoor.Q Go.Proofs.YtenmpmanbkaabaaDoorW.PrintWords Go.Proofs.YtenmpmanbkaabaaDoorW.PrintLast Go.Proofs.YtenmpmanbkaabaaDoor.Rng

theorem FnExactPowRange (a b n : Int) (_ : (Lit.int .i64 a).wf = true) (_ : (Lit.int .i64 b).wf = true) (_ : (Lit.int .i64 n).wf = true) : ∃ k, laws_FnExactPowRange.f k a b n = some true := by
  refine ⟨60, ?_⟩
  unfold laws_FnExactPowRange.f laws_toRange.f
  simp only [Option.bind_some]
  rw [spec_pow 60 (by omega)]
  simp only [Option.bind_some]
  rw [impl_pow 60 (by omega)]
  unfold laws_eqRange.f
  simp
end Go.Proofs.YtenmpmanbkaabaaDoor.Pure

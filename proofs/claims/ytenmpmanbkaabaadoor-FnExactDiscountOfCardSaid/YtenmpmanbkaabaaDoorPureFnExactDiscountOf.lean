/-
  The pure statement of FnExactDiscountOf (printed Lean functions). Conditions: none beyond the statement's own.
-/
import Derived.Test.YtenmpmanbkaabaaDoorQx5
import Derived.Test.YtenmpmanbkaabaaDoorQx6
import Derived.Test.YtenmpmanbkaabaaDoorDiscLaws
namespace Go.Proofs.YtenmpmanbkaabaaDoor.Pure
open Go.RowKit Go.Proofs.YtenmpmanbkaabaaDoor.Q Go.Proofs.YtenmpmanbkaabaaDoorW.PrintWords Go.Proofs.YtenmpmanbkaabaaDoorW.PrintLast Go.Proofs.YtenmpmanbkaabaaDoor.Rng

theorem FnExactDiscountOf : laws_FnExactDiscountOf.Pure := by
  intro y passed days per _ _ _ _
  refine ⟨60, ?_⟩
  unfold laws_FnExactDiscountOf.f
  rw [spec_disc 60 (by omega)]
  simp only [Option.bind_some]
  rw [impl_disc 60 (by omega)]
  unfold laws_eqRange.f
  simp
end Go.Proofs.YtenmpmanbkaabaaDoor.Pure

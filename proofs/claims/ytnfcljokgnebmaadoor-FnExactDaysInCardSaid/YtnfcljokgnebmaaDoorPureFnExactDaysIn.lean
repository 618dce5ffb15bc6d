/-
  The pure statement of FnExactDaysIn (printed Lean functions). Conditions: none beyond the statement's own.
-/
import Derived.Test.YtnfcljokgnebmaaDoorQx3
import Derived.Test.YtnfcljokgnebmaaDoorDaysLaws
namespace Go.Proofs.YtnfcljokgnebmaaDoor.Pure
open Go.RowKit Go.Proofs.YtnfcljokgnebmaaDoor.Q Go.Proofs.YtnfcljokgnebmaaDoorW.PrintWords Go.Proofs.YtnfcljokgnebmaaDoorW.PrintLast Go.Proofs.YtnfcljokgnebmaaDoor.Biz

theorem FnExactDaysIn : laws_FnExactDaysIn.Pure := by
  intro y m _ _
  unfold laws_FnExactDaysIn.f
  rw [spec_daysP]
  simp only [Option.bind_some]
  rw [impl_daysP]
  simp
end Go.Proofs.YtnfcljokgnebmaaDoor.Pure

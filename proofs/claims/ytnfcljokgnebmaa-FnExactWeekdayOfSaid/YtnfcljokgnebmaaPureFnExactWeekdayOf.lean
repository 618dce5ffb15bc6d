/-
  The pure statement of FnExactWeekdayOf: the printed functions of program and reference agree at every number. Conditions: none.
-/
import Derived.Test.YtnfcljokgnebmaaQx1
import Derived.Test.YtnfcljokgnebmaaWeekday
namespace Go.Proofs.Ytnfcljokgnebmaa.Pure
open Go.RowKit Go.Proofs.Ytnfcljokgnebmaa.Q Go.Proofs.YtnfcljokgnebmaaW.PrintWords Go.Proofs.YtnfcljokgnebmaaW.PrintLast

theorem FnExactWeekdayOf : laws_FnExactWeekdayOf.Pure := by
  intro n _
  unfold laws_FnExactWeekdayOf.f
  rw [spec_wd]
  simp only [Option.bind_some]
  rw [impl_wd]
  simp
end Go.Proofs.Ytnfcljokgnebmaa.Pure

/-
  The pure statement of FnExactConstants: the printed function answers true. Conditions: none.
-/
import Derived.Test.YtnfcljokgnebmaaQx1
namespace Go.Proofs.Ytnfcljokgnebmaa.Pure
open Go.RowKit Go.Proofs.Ytnfcljokgnebmaa.Q Go.Proofs.YtnfcljokgnebmaaW.PrintWords Go.Proofs.YtnfcljokgnebmaaW.PrintLast

theorem FnExactConstants : laws_FnExactConstants.Pure := by
  unfold laws_FnExactConstants.Pure laws_FnExactConstants.f
  rfl
end Go.Proofs.Ytnfcljokgnebmaa.Pure

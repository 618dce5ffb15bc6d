/-
  The pure statement of FnExactAdjustDay (printed Lean functions). Conditions: none beyond the statement's own.
-/
import Derived.Test.YtnfcljokgnebmaaDoorQx20
import Derived.Test.YtnfcljokgnebmaaDoorAdjLaws
import Derived.Test.YtnfcljokgnebmaaDoorCopyInts
namespace Go.Proofs.YtnfcljokgnebmaaDoor.Pure
open Go.RowKit Go.Proofs.YtnfcljokgnebmaaDoor.Q Go.Proofs.YtnfcljokgnebmaaDoorW.PrintWords Go.Proofs.YtnfcljokgnebmaaDoorW.PrintLast Go.Proofs.YtnfcljokgnebmaaDoor.Biz

theorem FnExactAdjustDay : laws_FnExactAdjustDay.Pure := by
  intro l a b hm hl hw _ _
  refine ⟨3000000, ?_⟩
  unfold laws_FnExactAdjustDay.f
  by_cases hbig : (l.length : Int) > 1048576
  · rw [if_pos hbig]
  rw [if_neg hbig, toIntS_eq l (by omega) 3000000 (by omega)]
  simp only [Option.bind_some]
  rw [specAdjust_eq l a b (by omega) 3000000 (by omega)]
  simp only [Option.bind_some]
  rw [show impl_AdjustDay.f l a b = some (adjustP l a b) from rfl]
  simp only [Option.bind_some, if_true]
  rw [eqIntS_eq l (by omega) 3000000 (by omega)]
  simp
end Go.Proofs.YtnfcljokgnebmaaDoor.Pure

/-
  The pure statement of FnExactBusinessBetween (printed Lean functions). Conditions: none beyond the statement's own.
-/
import Derived.Test.YtnfcljokgnebmaaQx10
import Derived.Test.YtnfcljokgnebmaaSpecBiz
import Derived.Test.YtnfcljokgnebmaaBizLaws
import Derived.Test.YtnfcljokgnebmaaCopyInts
import Derived.Test.YtnfcljokgnebmaaExt
namespace Go.Proofs.Ytnfcljokgnebmaa.Pure
open Go.RowKit Go.Proofs.Ytnfcljokgnebmaa.Q Go.Proofs.YtnfcljokgnebmaaW.PrintWords Go.Proofs.YtnfcljokgnebmaaW.PrintLast Go.Proofs.Ytnfcljokgnebmaa.Biz

theorem FnExactBusinessBetween : laws_FnExactBusinessBetween.Pure := by
  intro l a b hm hl hw _ _
  refine ⟨3000000, ?_⟩
  unfold laws_FnExactBusinessBetween.f
  by_cases hbig : (l.length : Int) > 1048576
  · rw [if_pos hbig]
  rw [if_neg hbig, toIntS_eq l (by omega) 3000000 (by omega)]
  simp only [Option.bind_some]
  rw [between_eq l a b (by omega) 3000000 (by omega)]
  simp only [Option.bind_some]
  rw [show impl_BusinessBetween.f l a b = some (between l a b) from rfl]
  simp only [Option.bind_some, if_true]
  rw [eqIntS_eq l (by omega) 3000000 (by omega)]
  simp
end Go.Proofs.Ytnfcljokgnebmaa.Pure

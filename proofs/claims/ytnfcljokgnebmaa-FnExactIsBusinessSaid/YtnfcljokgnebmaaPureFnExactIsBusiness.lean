/-
  The pure statement of FnExactIsBusiness (printed Lean functions). Conditions: none beyond the statement's own.
-/
import Derived.Test.YtnfcljokgnebmaaQx8
import Derived.Test.YtnfcljokgnebmaaSpecBiz
import Derived.Test.YtnfcljokgnebmaaBizLaws
import Derived.Test.YtnfcljokgnebmaaCopyInts
import Derived.Test.YtnfcljokgnebmaaExt
namespace Go.Proofs.Ytnfcljokgnebmaa.Pure
open Go.RowKit Go.Proofs.Ytnfcljokgnebmaa.Q Go.Proofs.YtnfcljokgnebmaaW.PrintWords Go.Proofs.YtnfcljokgnebmaaW.PrintLast Go.Proofs.Ytnfcljokgnebmaa.Biz

theorem FnExactIsBusiness : laws_FnExactIsBusiness.Pure := by
  intro l n hm hl hw _
  refine ⟨3000000, ?_⟩
  unfold laws_FnExactIsBusiness.f
  by_cases hbig : (l.length : Int) > 1048576
  · rw [if_pos hbig]
  rw [if_neg hbig, toIntS_eq l (by omega) 3000000 (by omega)]
  simp only [Option.bind_some]
  rw [isBusiness_eq l n (by omega) 3000000 (by omega)]
  simp only [Option.bind_some]
  rw [show impl_IsBusiness.f l n = some (isB l n) from rfl]
  simp only [Option.bind_some]
  rw [if_neg (by simp), eqIntS_eq l (by omega) 3000000 (by omega)]
  simp
end Go.Proofs.Ytnfcljokgnebmaa.Pure

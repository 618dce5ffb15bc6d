/-
  The pure statement of FnExactAddBusiness (printed Lean functions). Conditions: none beyond the statement's own.
-/
import Derived.Test.YtnfcljokgnebmaaQx12
import Derived.Test.YtnfcljokgnebmaaSpecBiz
import Derived.Test.YtnfcljokgnebmaaBizLaws
import Derived.Test.YtnfcljokgnebmaaCopyInts
import Derived.Test.YtnfcljokgnebmaaExt
namespace Go.Proofs.Ytnfcljokgnebmaa.Pure
open Go.RowKit Go.Proofs.Ytnfcljokgnebmaa.Q Go.Proofs.YtnfcljokgnebmaaW.PrintWords Go.Proofs.YtnfcljokgnebmaaW.PrintLast Go.Proofs.Ytnfcljokgnebmaa.Biz

theorem FnExactAddBusiness : laws_FnExactAddBusiness.Pure := by
  intro l n m hm hl hw _ _
  refine ⟨3000000, ?_⟩
  unfold laws_FnExactAddBusiness.f
  by_cases hbig : (l.length : Int) > 1048576
  · rw [if_pos hbig]
  rw [if_neg hbig, toIntS_eq l (by omega) 3000000 (by omega)]
  simp only [Option.bind_some]
  rw [addBusiness_eq l n m (by omega) 3000000 (by omega)]
  simp only [Option.bind_some]
  rw [show impl_AddBusiness.f l n m = some (addDays l n m) from rfl]
  simp only [Option.bind_some, if_true]
  rw [eqIntS_eq l (by omega) 3000000 (by omega)]
  simp
end Go.Proofs.Ytnfcljokgnebmaa.Pure

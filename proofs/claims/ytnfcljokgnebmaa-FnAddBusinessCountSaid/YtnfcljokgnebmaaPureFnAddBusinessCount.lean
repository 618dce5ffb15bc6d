/-
  The pure statement of FnAddBusinessCount (printed Lean functions). Conditions: none beyond the statement's own.
-/
import Derived.Test.YtnfcljokgnebmaaQx24
import Derived.Test.YtnfcljokgnebmaaSpecBiz
import Derived.Test.YtnfcljokgnebmaaBizLaws
import Derived.Test.YtnfcljokgnebmaaDrawAdd
import Derived.Test.YtnfcljokgnebmaaExt
namespace Go.Proofs.Ytnfcljokgnebmaa.Pure
open Go.RowKit Go.Proofs.Ytnfcljokgnebmaa.Q Go.Proofs.YtnfcljokgnebmaaW.PrintWords Go.Proofs.YtnfcljokgnebmaaW.PrintLast Go.Proofs.Ytnfcljokgnebmaa.Biz

theorem FnAddBusinessCount : laws_FnAddBusinessCount.Pure := by
  intro l hm hl hw
  refine ⟨50000, ?_⟩
  unfold laws_FnAddBusinessCount.f
  by_cases hbig : (l.length : Int) > 1048576
  · rw [if_pos hbig]
  rw [if_neg hbig]
  obtain ⟨h, n, m, hd, hlen, n0, n1, m0, m1⟩ := drawAdd_ok 50000 l (by omega) hw
  rw [hd]
  simp only [Option.bind_some]
  rw [show impl_AddBusiness.f h n m = some (addDays h n m) from rfl, addBusiness_eq h n m (by omega) 50000 (by omega)]
  simp only [Option.bind_some, if_true]
  by_cases c : addDays h n m < 0
  · rw [decide_eq_true c]
    show laws_FnAddBusinessCount.j0 (49999 + 1) h n m (addDays h n m) true = some true
    simp only [laws_FnAddBusinessCount.j0]
    rw [if_pos trivial, addBusiness_eq h n m (by omega) 49999 (by omega)]
    simp
  · rw [decide_eq_false c]
    obtain ⟨H, h0, h1, _, _, r0, r1, r2, _, rc⟩ := addDays_cnt (h := h) (n := n) (many := m) (by omega)
    show laws_FnAddBusinessCount.j0 (49999 + 1) h n m (addDays h n m) false = some true
    simp only [laws_FnAddBusinessCount.j0]
    rw [if_neg (by simp), show ∀ b, impl_BusinessBetween.f h n b = some (between h n b) from fun _ => rfl]
    simp only [Option.bind_some]
    rw [between_eq_cnt H h0 r0 r1 (by omega), rc, if_pos rfl]
    simp [r0]
end Go.Proofs.Ytnfcljokgnebmaa.Pure

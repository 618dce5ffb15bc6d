/-
  The pure statement of FnAdjustDay (printed Lean functions). Conditions: none beyond the statement's own.
-/
import Derived.Test.YtnfcljokgnebmaaDoorQx22
import Derived.Test.YtnfcljokgnebmaaDoorAdjLaws
import Derived.Test.YtnfcljokgnebmaaDoorDrawAdj
namespace Go.Proofs.YtnfcljokgnebmaaDoor.Pure
open Go.RowKit Go.Proofs.YtnfcljokgnebmaaDoor.Q Go.Proofs.YtnfcljokgnebmaaDoorW.PrintWords Go.Proofs.YtnfcljokgnebmaaDoorW.PrintLast Go.Proofs.YtnfcljokgnebmaaDoor.Biz

theorem FnAdjustDay : laws_FnAdjustDay.Pure := by
  intro l hm hl hw
  refine ⟨50000, ?_⟩
  unfold laws_FnAdjustDay.f
  by_cases hbig : (l.length : Int) > 1048576
  · rw [if_pos hbig]
  rw [if_neg hbig]
  obtain ⟨h, n, rule, hd, hlen, n0, n1, m0, m1⟩ := drawAdj_ok 50000 l (by omega) hw
  rw [hd]
  simp only [Option.bind_some]
  rw [show impl_AdjustDay.f h n rule = some (adjustP h n rule) from rfl, specAdjust_eq h n rule (by omega) 50000 (by omega)]
  simp only [Option.bind_some, if_true]
  by_cases c : adjustP h n rule < 0
  · rw [decide_eq_true c]
    show laws_FnAdjustDay.j0 (49999 + 1) h n rule (adjustP h n rule) true = some true
    simp only [laws_FnAdjustDay.j0]
    rw [if_pos trivial, specAdjust_eq h n rule (by omega) 49999 (by omega)]
    simp
  rw [decide_eq_false c]
  obtain ⟨H, d0, d1⟩ := adjustP_yes (h := h) (n := n) (rule := rule) (by omega)
  show laws_FnAdjustDay.j0 (49999 + 1) h n rule (adjustP h n rule) false = some true
  simp only [laws_FnAdjustDay.j0]
  rw [if_neg (by simp)]
  by_cases r0 : rule = 0
  · rw [if_pos r0]
    have e : adjustP h n rule = n := by rw [adjustP_of H d0 d1, if_pos r0]
    rw [e]
    simp
  · rw [if_neg r0]
    obtain ⟨p0, p1, po, pr⟩ := adjustP_open (h := h) (n := n) (rule := rule) (by omega) r0
    rw [show impl_IsBusiness.f h (adjustP h n rule) = some (isB h (adjustP h n rule)) from rfl, isB_of H p0 p1, po]
    simp only [Option.bind_some, if_true]
    rw [show impl_AdjustDay.f h (adjustP h n rule) rule = some (adjustP h (adjustP h n rule) rule) from rfl, adjustP_self H p0 p1 po pr]
    simp
end Go.Proofs.YtnfcljokgnebmaaDoor.Pure

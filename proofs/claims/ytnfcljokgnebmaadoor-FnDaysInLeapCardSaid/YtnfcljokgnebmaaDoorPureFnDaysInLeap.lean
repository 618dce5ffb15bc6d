/-
  The pure statement of FnDaysInLeap (printed Lean functions). Conditions: none beyond the statement's own.
-/
import Derived.Test.YtnfcljokgnebmaaDoorQx8
import Derived.Test.YtnfcljokgnebmaaDoorDaysLaws
import Derived.Test.YtnfcljokgnebmaaDoorDrawDays
namespace Go.Proofs.YtnfcljokgnebmaaDoor.Pure
open Go.RowKit Go.Proofs.YtnfcljokgnebmaaDoor.Q Go.Proofs.YtnfcljokgnebmaaDoorW.PrintWords Go.Proofs.YtnfcljokgnebmaaDoorW.PrintLast Go.Proofs.YtnfcljokgnebmaaDoor.Biz

theorem FnDaysInLeap : laws_FnDaysInLeap.Pure := by
  intro l hm hl hw
  refine ⟨100, ?_⟩
  unfold laws_FnDaysInLeap.f
  by_cases hbig : (l.length : Int) > 1048576
  · rw [if_pos hbig]
  rw [if_neg hbig]
  obtain ⟨y, m, hd, y0, y1, m0, m1⟩ := drawDays_ok 100 l (by omega) hw
  rw [hd]
  simp only [Option.bind_some]
  rw [impl_daysP, spec_daysP]
  simp only [Option.bind_some, if_true]
  have hout : laws_FnDaysInLeap.j0 100 y m (daysP y m) true = some true := by
    show laws_FnDaysInLeap.j0 (99 + 1) y m (daysP y m) true = some true
    simp only [laws_FnDaysInLeap.j0]
    rw [if_pos trivial, spec_daysP]
    simp
  by_cases c : daysP y m < 0
  · rw [if_pos c]
    exact hout
  rw [if_neg c, w64 (by omega) (by omega)]
  by_cases c4 : y + 4 > 2089
  · rw [if_pos c4]
    exact hout
  rw [if_neg c4]
  by_cases c1 : Int.tmod y 100 = 0
  · rw [if_pos c1]
    exact hout
  rw [if_neg c1]
  by_cases c2 : Int.tmod (y + 4) 100 = 0
  · rw [show (Int.tmod (y + 4) 100 == 0) = true by simpa using c2]
    exact hout
  rw [show (Int.tmod (y + 4) 100 == 0) = false by simpa using c2]
  obtain ⟨hy, hm⟩ := daysP_yes (y := y) (m := m) (by omega)
  show laws_FnDaysInLeap.j0 (99 + 1) y m (daysP y m) false = some true
  simp only [laws_FnDaysInLeap.j0]
  rw [if_neg (by simp), w64 (by omega) (by omega), impl_daysP]
  simp only [Option.bind_some]
  have en : daysP y m = dim y m := by unfold daysP; rw [if_pos ⟨hy, hm⟩]
  have e4 : daysP (y + 4) m = dim (y + 4) m := by unfold daysP; rw [if_pos ⟨by omega, hm⟩]
  have el : leapB (y + 4) = leapB y := by
    have a : decide (Int.tmod (y + 4) 4 = 0) = decide (Int.tmod y 4 = 0) := by
      rw [Int.tmod_eq_emod_of_nonneg (by omega), Int.tmod_eq_emod_of_nonneg (by omega)]
      congr 1
      rw [eq_iff_iff]
      omega
    unfold leapB
    rw [a, decide_eq_false c1, decide_eq_false c2]
    simp
  rw [en, e4]
  unfold dim
  rw [el]
  simp
end Go.Proofs.YtnfcljokgnebmaaDoor.Pure

/-
  The pure statement of FnDiscountOfPeriods (printed Lean functions). Conditions: none beyond the statement's own.
-/
import Derived.Test.YtenmpmanbkaabaaDoorQx15
import Derived.Test.YtenmpmanbkaabaaDoorDiscLaws
import Derived.Test.YtenmpmanbkaabaaDoorDrawDisc
namespace Go.Proofs.YtenmpmanbkaabaaDoor.Pure
open Go.RowKit Go.Proofs.YtenmpmanbkaabaaDoor.Q Go.Proofs.YtenmpmanbkaabaaDoorW.PrintWords Go.Proofs.YtenmpmanbkaabaaDoorW.PrintLast Go.Proofs.YtenmpmanbkaabaaDoor.Rng

theorem FnDiscountOfPeriods : laws_FnDiscountOfPeriods.Pure := by
  intro l hm hl hw
  refine ⟨100, ?_⟩
  unfold laws_FnDiscountOfPeriods.f
  by_cases hbig : (l.length : Int) > 1048576
  · rw [if_pos hbig]
  rw [if_neg hbig]
  obtain ⟨y, passed, days, per, hd, y0, y1, p0, p1, d0, d1, n0, n1⟩ := drawDisc_ok 100 l (by omega) hw
  rw [hd]
  simp only [Option.bind_some]
  rw [impl_disc 100 (by omega), spec_disc 100 (by omega)]
  simp only [Option.bind_some]
  rw [if_neg (by simp)]
  have hout : laws_FnDiscountOfPeriods.j0 100 y passed days per true (discF y passed days per).1 (discF y passed days per).2 = some true := by
    show laws_FnDiscountOfPeriods.j0 (99 + 1) _ _ _ _ _ _ _ = some true
    simp only [laws_FnDiscountOfPeriods.j0]
    rw [if_pos trivial, spec_disc 99 (by omega)]
    simp
  by_cases hz : (discF y passed days per).2 = 0
  · rw [if_pos hz]
    exact hout
  rw [if_neg hz]
  have hin : DiscIn y passed days per := by
    refine Classical.byContradiction fun e => hz ?_
    rw [discF_no e]
  have hin' := hin
  obtain ⟨i0, i1, i2, i3⟩ := hin'
  have d := disc_ok (n := per.toNat) i0.1 i0.2 (show 0 ≤ days - passed by omega) (show days - passed ≤ days by omega) (by omega) (by omega)
  by_cases c : per = 40
  · rw [show (per == 40) = true by simpa using c]
    exact hout
  rw [show (per == 40) = false by simpa using c]
  show laws_FnDiscountOfPeriods.j0 (99 + 1) _ _ _ _ _ _ _ = some true
  simp only [laws_FnDiscountOfPeriods.j0]
  rw [if_neg (by simp), w64 (n := per + 1) (by omega) (by omega), impl_disc 99 (by omega)]
  simp only [Option.bind_some]
  rw [w64 (by omega) (by omega), impl_mul]
  simp only [Option.bind_some]
  rw [discF_yes hin, discF_yes (per := per + 1) ⟨i0, i1, i2, by omega, by omega⟩, show (per + 1).toNat = per.toNat + 1 by omega]
  obtain ⟨r1, r2, r3⟩ := disc_period (n := per.toNat) i0.1 i0.2 (show 0 ≤ days - passed by omega) (show days - passed ≤ days by omega) (by omega) (by omega)
  rw [if_pos r1, if_pos r2]
  exact congrArg some (decide_eq_true r3)
end Go.Proofs.YtenmpmanbkaabaaDoor.Pure

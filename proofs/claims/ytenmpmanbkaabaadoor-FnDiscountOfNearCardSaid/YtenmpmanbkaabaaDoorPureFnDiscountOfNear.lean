/-
  The pure statement of FnDiscountOfNear (printed Lean functions). Conditions: none beyond the statement's own.
-/
import Derived.Test.YtenmpmanbkaabaaDoorQx12
import Derived.Test.YtenmpmanbkaabaaDoorDiscLaws
import Derived.Test.YtenmpmanbkaabaaDoorDrawDisc
namespace Go.Proofs.YtenmpmanbkaabaaDoor.Pure
open Go.RowKit Go.Proofs.YtenmpmanbkaabaaDoor.Q Go.Proofs.YtenmpmanbkaabaaDoorW.PrintWords Go.Proofs.YtenmpmanbkaabaaDoorW.PrintLast Go.Proofs.YtenmpmanbkaabaaDoor.Rng

theorem FnDiscountOfNear : laws_FnDiscountOfNear.Pure := by
  intro l hm hl hw
  refine ⟨100, ?_⟩
  unfold laws_FnDiscountOfNear.f
  by_cases hbig : (l.length : Int) > 1048576
  · rw [if_pos hbig]
  rw [if_neg hbig]
  obtain ⟨y, passed, days, per, hd, y0, y1, p0, p1, d0, d1, n0, n1⟩ := drawDisc_ok 100 l (by omega) hw
  rw [hd]
  simp only [Option.bind_some]
  rw [impl_disc 100 (by omega), spec_disc 100 (by omega)]
  simp only [Option.bind_some]
  rw [if_neg (by simp)]
  have hout : laws_FnDiscountOfNear.j0 100 y passed days per true (discF y passed days per).1 (discF y passed days per).2 = some true := by
    show laws_FnDiscountOfNear.j0 (99 + 1) _ _ _ _ _ _ _ = some true
    simp only [laws_FnDiscountOfNear.j0]
    rw [if_pos trivial, spec_disc 99 (by omega)]
    simp
  by_cases hz : (discF y passed days per).2 = 0
  · rw [if_pos hz]
    exact hout
  rw [if_neg hz]
  have hin : DiscIn y passed days per := by
    refine Classical.byContradiction fun e => hz ?_
    rw [discF_no e]
  have hin' := hin
  obtain ⟨i0, i1, i2, i3⟩ := hin'
  have d := disc_ok (n := per.toNat) i0.1 i0.2 (show 0 ≤ days - passed by omega) (show days - passed ≤ days by omega) (by omega) (by omega)
  by_cases c : passed = days
  · rw [show (passed == days) = true by simpa using c]
    exact hout
  rw [show (passed == days) = false by simpa using c]
  show laws_FnDiscountOfNear.j0 (99 + 1) _ _ _ _ _ _ _ = some true
  simp only [laws_FnDiscountOfNear.j0]
  rw [if_neg (by simp), w64 (by omega) (by omega), impl_disc 99 (by omega), impl_disc 99 (by omega), impl_disc 99 (by omega)]
  simp only [Option.bind_some]
  rw [discF_yes hin, discF_yes (passed := passed + 1) ⟨i0, i1, ⟨by omega, by omega⟩, i3⟩, discF_yes (passed := days) ⟨i0, i1, ⟨by omega, by omega⟩, i3⟩, discF_yes (passed := 1) (days := 1) ⟨i0, ⟨by omega, by omega⟩, ⟨by omega, by omega⟩, i3⟩]
  have a := disc_anti (n := per.toNat) i0.1 (Int.le_refl y) i0.2 (show 0 ≤ days - (passed + 1) by omega) (show days - (passed + 1) ≤ days - passed by omega) (show days - passed ≤ days by omega) (by omega)
  rw [if_pos a.1, if_pos a.2]
  unfold disc
  rw [show days - days = 0 by omega, show (1 : Int) - 1 = 0 by omega, part_end y days (by omega), part_end y 1 (by omega)]
  simp
end Go.Proofs.YtenmpmanbkaabaaDoor.Pure

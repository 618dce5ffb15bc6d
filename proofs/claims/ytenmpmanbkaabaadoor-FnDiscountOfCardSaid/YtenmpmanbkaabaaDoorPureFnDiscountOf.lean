/-
  The pure statement of FnDiscountOf (printed Lean functions). Conditions: none beyond the statement's own.
-/
import Derived.Test.YtenmpmanbkaabaaDoorQx11
import Derived.Test.YtenmpmanbkaabaaDoorDiscLaws
import Derived.Test.YtenmpmanbkaabaaDoorDrawDisc
namespace Go.Proofs.YtenmpmanbkaabaaDoor.Pure
open Go.RowKit Go.Proofs.YtenmpmanbkaabaaDoor.Q Go.Proofs.YtenmpmanbkaabaaDoorW.PrintWords Go.Proofs.YtenmpmanbkaabaaDoorW.PrintLast Go.Proofs.YtenmpmanbkaabaaDoor.Rng

theorem FnDiscountOf : laws_FnDiscountOf.Pure := by
  intro l hm hl hw
  refine ⟨100, ?_⟩
  unfold laws_FnDiscountOf.f
  by_cases hbig : (l.length : Int) > 1048576
  · rw [if_pos hbig]
  rw [if_neg hbig]
  obtain ⟨y, passed, days, per, hd, y0, y1, p0, p1, d0, d1, n0, n1⟩ := drawDisc_ok 100 l (by omega) hw
  rw [hd]
  simp only [Option.bind_some]
  rw [impl_disc 100 (by omega), spec_disc 100 (by omega)]
  simp only [Option.bind_some]
  rw [if_neg (by simp)]
  have hout : laws_FnDiscountOf.j0 100 y passed days per true (discF y passed days per).1 (discF y passed days per).2 = some true := by
    show laws_FnDiscountOf.j0 (99 + 1) _ _ _ _ _ _ _ = some true
    simp only [laws_FnDiscountOf.j0]
    rw [if_pos trivial, spec_disc 99 (by omega)]
    simp
  by_cases hz : (discF y passed days per).2 = 0
  · rw [show ((discF y passed days per).2 == 0) = true by simpa using hz]
    exact hout
  rw [show ((discF y passed days per).2 == 0) = false by simpa using hz]
  have hin : DiscIn y passed days per := by
    refine Classical.byContradiction fun e => hz ?_
    rw [discF_no e]
  have hin' := hin
  obtain ⟨i0, i1, i2, i3⟩ := hin'
  have d := disc_ok (n := per.toNat) i0.1 i0.2 (show 0 ≤ days - passed by omega) (show days - passed ≤ days by omega) (by omega) (by omega)
  show laws_FnDiscountOf.j0 (99 + 1) _ _ _ _ _ _ _ = some true
  simp only [laws_FnDiscountOf.j0]
  rw [if_neg (by simp), impl_disc 99 (by omega), impl_disc 99 (by omega), impl_disc 99 (by omega), w64 (by omega) (by omega), w64 (by omega) (by omega)]
  simp only [Option.bind_some]
  have em : mn (per + 1) 40 = per + 1 ∧ per < 40 ∨ mn (per + 1) 40 = per ∧ per = 40 := by unfold mn; omega
  have ey : y ≤ mn (y + 1000) 100000 ∧ mn (y + 1000) 100000 ≤ 100000 := by unfold mn; omega
  rw [discF_yes hin, discF_yes (y := 0) ⟨⟨by omega, by omega⟩, i1, i2, i3⟩, disc_none _ (by omega), discF_yes (y := mn (y + 1000) 100000) ⟨⟨by omega, by omega⟩, i1, i2, i3⟩]
  have a2 := disc_anti (n := per.toNat) i0.1 ey.1 ey.2 (show 0 ≤ days - passed by omega) (Int.le_refl _) (show days - passed ≤ days by omega) (by omega)
  have a1 : (discF y passed days (mn (per + 1) 40)).1 ≤ (disc y (days - passed) days per.toNat).1 ∧ (discF y passed days (mn (per + 1) 40)).2 ≤ (disc y (days - passed) days per.toNat).2 := by
    rcases em with ⟨em, hp⟩ | ⟨em, hp⟩
    · rw [em, discF_yes ⟨i0, i1, i2, by omega, by omega⟩, show (per + 1).toNat = per.toNat + 1 by omega]
      exact disc_next i0.1 i0.2 (by omega) (by omega) (by omega)
    · rw [em, discF_yes ⟨i0, i1, i2, i3⟩]
      exact ⟨Int.le_refl _, Int.le_refl _⟩
  rw [if_pos d.1, if_pos d.2.1, if_pos d.2.2, if_pos a1.1, if_pos a1.2, if_pos a2.1, if_pos a2.2]
  rfl
end Go.Proofs.YtenmpmanbkaabaaDoor.Pure

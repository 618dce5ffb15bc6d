/-
  The pure statement of FnWeekdayOf: at every drawn day the weekday is the same seven days later, and the next one a day later. Conditions: none.
-/
import Derived.Test.YtnfcljokgnebmaaQx2
import Derived.Test.YtnfcljokgnebmaaWeekday
import Derived.Test.YtnfcljokgnebmaaDrawDay
namespace Go.Proofs.Ytnfcljokgnebmaa.Pure
open Go.RowKit Go.Proofs.Ytnfcljokgnebmaa.Q Go.Proofs.YtnfcljokgnebmaaW.PrintWords Go.Proofs.YtnfcljokgnebmaaW.PrintLast Go.Proofs.Ytnfcljokgnebmaa.Biz

theorem FnWeekdayOf : laws_FnWeekdayOf.Pure := by
  intro l hm hl hw
  refine ⟨10, ?_⟩
  unfold laws_FnWeekdayOf.f
  by_cases hbig : (l.length : Int) > 1048576
  · rw [if_pos hbig]
  rw [if_neg hbig]
  obtain ⟨s, hs, hB⟩ := newReader_ok l hw
  obtain ⟨n, p', hn, n0, n1, _, _⟩ := anyDay_ok 10 s 0 (by omega) hB (by omega) (by omega)
  have hd : spec_DrawWeekdayOf.f 10 l = some n := by
    unfold spec_DrawWeekdayOf.f
    rw [hs]
    simp only [Option.bind_some]
    rw [hn]
    simp only [Option.bind_some]
  rw [hd]
  simp only [Option.bind_some]
  rw [impl_wd, spec_wd]
  simp only [Option.bind_some, if_true]
  by_cases h0 : wd n < 0
  · rw [if_pos h0]
    simp only [laws_FnWeekdayOf.j0]
    rw [if_pos trivial, spec_wd]
    simp
  · rw [if_neg h0, wr (by omega) (by omega)]
    have hv : 0 ≤ n ∧ n ≤ 36524 := by
      by_cases hv : 0 ≤ n ∧ n ≤ 36524
      · exact hv
      · exact absurd (by unfold wd; rw [dayV_no hv, if_neg Bool.false_ne_true]; decide) h0
    simp only [laws_FnWeekdayOf.j0]
    by_cases h7 : n + 7 > 36524
    · rw [if_pos (by simpa using h7), spec_wd]
      simp
    · rw [if_neg (by simpa using h7), wr (by omega) (by omega), wr (by omega) (by omega), impl_wd, impl_wd]
      simp only [Option.bind_some]
      have e0 : wd n = n % 7 := by unfold wd; rw [dayV_yes hv.1 hv.2, if_pos rfl]
      have e7 : wd (n + 7) = n % 7 := by unfold wd; rw [dayV_yes (by omega) (by omega), if_pos rfl]; omega
      have e1 : wd (n + 1) = (n + 1) % 7 := by unfold wd; rw [dayV_yes (by omega) (by omega), if_pos rfl]
      rw [e7, e1, e0, if_pos rfl, wr (by omega) (by omega), Int.tmod_eq_emod_of_nonneg (by omega), if_pos (by omega)]
      have : n % 7 ≤ 6 := by omega
      simp [this]
end Go.Proofs.Ytnfcljokgnebmaa.Pure

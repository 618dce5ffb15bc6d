/-
  The weekday functions of the program and of the reference (printed Lean functions) come to one plain expression. Conditions: none.
-/
import Derived.Test.YtnfcljokgnebmaaQx1
import Derived.Test.YtnfcljokgnebmaaBiz
namespace Go.Proofs.Ytnfcljokgnebmaa.Pure
open Go.RowKit Go.Proofs.Ytnfcljokgnebmaa.Q Go.Proofs.YtnfcljokgnebmaaW.PrintWords Go.Proofs.YtnfcljokgnebmaaW.PrintLast Go.Proofs.Ytnfcljokgnebmaa.Biz

def wd (n : Int) : Int := if dayV n = true then n % 7 else -1
theorem impl_wd (n : Int) : impl_WeekdayOf.f n = some (wd n) := by
  unfold impl_WeekdayOf.f impl_dayValid.f impl_within.f wd
  by_cases h0 : n ≥ 0
  · rw [if_pos h0]
    by_cases h1 : n ≤ 36524
    · simp [h1, dayV_yes h0 h1, Int.tmod_eq_emod_of_nonneg h0]
    · simp [h1, dayV_no (fun e => h1 e.2)]
  · rw [if_neg h0]
    simp [dayV_no (fun e => h0 e.1)]
theorem spec_wd (n : Int) : spec_WeekdayOf.f n = some (wd n) := by
  unfold spec_WeekdayOf.f spec_inRange.f wd
  by_cases h0 : 0 ≤ n
  · rw [if_pos h0]
    by_cases h1 : n ≤ 36524
    · simp [h1, dayV_yes h0 h1, Int.tmod_eq_emod_of_nonneg h0]
    · simp [h1, dayV_no (fun e => h1 e.2)]
  · rw [if_neg h0]
    simp [dayV_no (fun e => h0 e.1)]
end Go.Proofs.Ytnfcljokgnebmaa.Pure

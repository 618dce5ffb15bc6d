/-
  DaysIn and ValidDate of program and reference (printed Lean functions) come to one plain expression. Conditions: none.
-/
import Derived.Test.YtnfcljokgnebmaaDoorQx1
import Derived.Test.YtnfcljokgnebmaaDoorQx2
import Derived.Test.YtnfcljokgnebmaaDoorDate
namespace Go.Proofs.YtnfcljokgnebmaaDoor.Pure
open Go.RowKit Go.Proofs.YtnfcljokgnebmaaDoor.Q Go.Proofs.YtnfcljokgnebmaaDoorW.PrintWords Go.Proofs.YtnfcljokgnebmaaDoorW.PrintLast Go.Proofs.YtnfcljokgnebmaaDoor.Biz

theorem within_eq (a lo hi : Int) : impl_within.f a lo hi = some (decide (lo ≤ a) && decide (a ≤ hi)) := by
  unfold impl_within.f
  by_cases h : a ≥ lo
  · rw [if_pos h]
    have : lo ≤ a := h
    simp [this]
  · rw [if_neg h]
    have : ¬ lo ≤ a := h
    simp [this]
def daysP (y m : Int) : Int := if (1990 ≤ y ∧ y ≤ 2089) ∧ 1 ≤ m ∧ m ≤ 12 then dim y m else -1
theorem daysP_yes {y m : Int} (h : 0 ≤ daysP y m) : (1990 ≤ y ∧ y ≤ 2089) ∧ 1 ≤ m ∧ m ≤ 12 := by
  unfold daysP at h
  by_cases c : (1990 ≤ y ∧ y ≤ 2089) ∧ 1 ≤ m ∧ m ≤ 12
  · exact c
  · rw [if_neg c] at h
    omega
theorem spec_daysP (y m : Int) : spec_DaysIn.f y m = some (daysP y m) := by
  unfold spec_DaysIn.f daysP
  rw [inRange_eq]
  simp only [Option.bind_some]
  by_cases hy : 1990 ≤ y ∧ y ≤ 2089
  · rw [if_pos (by simp; omega), inRange_eq]
    simp only [Option.bind_some]
    by_cases hm : 1 ≤ m ∧ m ≤ 12
    · rw [if_pos (by simp; omega), spec_dim y m hm.1 hm.2, if_pos ⟨hy, hm⟩]
      rfl
    · rw [if_neg (by simp; omega), if_neg (fun e => hm e.2)]
  · rw [if_neg (by simp; omega), if_neg (fun e => hy e.1)]
theorem impl_daysP (y m : Int) : impl_DaysIn.f y m = some (daysP y m) := by
  unfold impl_DaysIn.f daysP
  rw [within_eq]
  simp only [Option.bind_some]
  by_cases hy : 1990 ≤ y ∧ y ≤ 2089
  · rw [if_pos (by simp; omega), within_eq]
    simp only [Option.bind_some]
    by_cases hm : 1 ≤ m ∧ m ≤ 12
    · rw [if_pos (by simp; omega), impl_dim y m hm.1 hm.2, if_pos ⟨hy, hm⟩]
      rfl
    · rw [if_neg (by simp; omega), if_neg (fun e => hm e.2)]
  · rw [if_neg (by simp; omega), if_neg (fun e => hy e.1)]
end Go.Proofs.YtnfcljokgnebmaaDoor.Pure

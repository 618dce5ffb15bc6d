/-
  What the printed Lean functions of ranges are, over pairs of whole numbers. Conditions: they stand in each theorem.
-/
import Derived.Test.YtbofmoelmhbpoaaDoorExtThrough
import Derived.Test.YtbofmoelmhbpoaaDoorQx2
import Derived.Test.YtbofmoelmhbpoaaDoorQx3
import Derived.Test.YtbofmoelmhbpoaaDoorQx5
import Derived.Test.YtbofmoelmhbpoaaDoorRngFl
namespace Go.Proofs.YtbofmoelmhbpoaaDoor.Rng
open Go.RowKit Go.Proofs.YtbofmoelmhbpoaaDoor.Q Go.Proofs.YtbofmoelmhbpoaaDoorW.PrintWords Go.Proofs.YtbofmoelmhbpoaaDoorW.PrintLast

theorem spec_divRange_is (a b c d : Int) (h : okR a b = true) (k : okR c d = true) (hc : 0 < c) : spec_divRange.f a b c d = some (divLo a d, divHi b c) := by
  have h' := okR_iff.1 h
  have k' := okR_iff.1 k
  unfold spec_divRange.f
  rw [w64 (by omega) (by omega), floorDiv_is _ _ (by omega) (by omega) (by omega), w64 (by omega) (by omega), ceilDiv_is _ _ (by omega) (by omega) (by omega)]
  rfl
theorem ratio_is (a b c d : Int) (h : okR a b = true) (k : okR c d = true) (hc : 0 < c) : impl_ratio.f a b c d = some (divLo a d, divHi b c) := by
  have h' := okR_iff.1 h
  have k' := okR_iff.1 k
  unfold impl_ratio.f
  rw [w64 (by omega) (by omega), floor_is _ _ (by omega) (by omega) (by omega), w64 (by omega) (by omega), ceil_is _ _ (by omega) (by omega) (by omega)]
  rfl
theorem bothRatio_is (a b c d : Int) (hc : 0 < c) : impl_bothRatio.f a b c d = some (if okR a b = true ∧ okR c d = true then (if okR (divLo a d) (divHi b c) = true then (divLo a d, divHi b c, none) else (0, 0, some 0)) else (0, 0, some 0)) := by
  unfold impl_bothRatio.f
  rw [checked_is]
  simp only [Option.bind_some]
  by_cases h : okR a b = true
  · rw [if_pos h, if_pos (by rfl), checked_is]
    simp only [Option.bind_some]
    by_cases k : okR c d = true
    · rw [if_pos k, if_pos (by rfl), ratio_is a b c d h k hc]
      simp only [Option.bind_some]
      rw [checked_is, if_pos (show okR a b = true ∧ okR c d = true from ⟨h, k⟩)]
      rfl
    · rw [if_neg k, if_neg (by decide), if_neg (fun e => k e.2)]
      rfl
  · rw [if_neg h, if_neg (by decide), if_neg (fun e => h e.1)]
    rfl
theorem through_is (a b c d : Int) : impl_Range_through.f a b c d = some (if okR a b = true ∧ okR c d = true ∧ 0 ≤ a ∧ 0 < c then (if okR (divLo a d) (divHi b c) = true then (divLo a d, divHi b c, none) else (0, 0, some 0)) else (0, 0, some 0)) := by
  unfold impl_Range_through.f
  by_cases h : a < 0 ∨ c ≤ 0
  · rw [if_pos h, if_neg (by omega)]
  · rw [if_neg h, bothRatio_is a b c d (by omega)]
    by_cases k : okR a b = true ∧ okR c d = true
    · rw [if_pos k, if_pos (show okR a b = true ∧ okR c d = true ∧ 0 ≤ a ∧ 0 < c from ⟨k.1, k.2, by omega, by omega⟩)]
    · rw [if_neg k, if_neg (show ¬ (okR a b = true ∧ okR c d = true ∧ 0 ≤ a ∧ 0 < c) from fun e => k ⟨e.1, e.2.1⟩)]
end Go.Proofs.YtbofmoelmhbpoaaDoor.Rng

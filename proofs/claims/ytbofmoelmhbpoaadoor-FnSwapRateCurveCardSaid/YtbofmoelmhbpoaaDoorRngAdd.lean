/-
  What the printed Lean functions of ranges are, over pairs of whole numbers. Conditions: they stand in each theorem.
-/
import Derived.Test.YtbofmoelmhbpoaaDoorQx7
import Derived.Test.YtbofmoelmhbpoaaDoorRngBase
namespace Go.Proofs.YtbofmoelmhbpoaaDoor.Rng
open Go.RowKit Go.Proofs.YtbofmoelmhbpoaaDoor.Q Go.Proofs.YtbofmoelmhbpoaaDoorW.PrintWords Go.Proofs.YtbofmoelmhbpoaaDoorW.PrintLast

theorem bothPlus_is (a b c d : Int) : impl_bothPlus.f a b c d = some (if okR a b = true ∧ okR c d = true then (if okR (a + c) (b + d) = true then (a + c, b + d, none) else (0, 0, some 0)) else (0, 0, some 0)) := by
  unfold impl_bothPlus.f
  rw [checked_is]
  simp only [Option.bind_some]
  by_cases h : okR a b = true
  · rw [if_pos h, if_pos (by rfl), checked_is]
    simp only [Option.bind_some]
    by_cases k : okR c d = true
    · have h' := okR_iff.1 h
      have k' := okR_iff.1 k
      rw [if_pos k, if_pos (by rfl)]
      unfold impl_Range_plus_1.f
      simp only [Option.bind_some]
      rw [w64 (by omega) (by omega), w64 (by omega) (by omega), checked_is, if_pos (show okR a b = true ∧ okR c d = true from ⟨h, k⟩)]
      rfl
    · rw [if_neg k, if_neg (by decide), if_neg (fun e => k e.2)]
      rfl
  · rw [if_neg h, if_neg (by decide), if_neg (fun e => h e.1)]
    rfl
theorem plus_is (a b c d : Int) : impl_Range_plus.f a b c d = some (if okR a b = true ∧ okR c d = true then (if okR (a + c) (b + d) = true then (a + c, b + d, none) else (0, 0, some 0)) else (0, 0, some 0)) := by
  unfold impl_Range_plus.f
  rw [bothPlus_is]
  rfl
end Go.Proofs.YtbofmoelmhbpoaaDoor.Rng

/-
  What the printed Lean functions of ranges are, over pairs of whole numbers. Conditions: they stand in each theorem.
-/
import Derived.Test.YtbofmoelmhbpoaaDoorQx7
import Derived.Test.YtbofmoelmhbpoaaDoorQx8
import Derived.Test.YtbofmoelmhbpoaaDoorRngFl
namespace Go.Proofs.YtbofmoelmhbpoaaDoor.Rng
open Go.RowKit Go.Proofs.YtbofmoelmhbpoaaDoor.Q Go.Proofs.YtbofmoelmhbpoaaDoorW.PrintWords Go.Proofs.YtbofmoelmhbpoaaDoorW.PrintLast

theorem mn_is (a b : Int) : mn a b = min a b := by unfold mn; omega
theorem mx_is (a b : Int) : mx a b = max a b := by unfold mx; omega
theorem times1_is (a b c d : Int) (h : okR a b = true) (g : okR c d = true) : impl_Range_times_1.f a b c d = some (mulLo a b c d, mulHi a b c d) := by
  have h' := okR_iff.1 h
  have g' := okR_iff.1 g
  have e1 := mul_bd (x := a) (y := c) (by omega) (by omega) (by omega) (by omega)
  have e2 := mul_bd (x := a) (y := d) (by omega) (by omega) (by omega) (by omega)
  have e3 := mul_bd (x := b) (y := c) (by omega) (by omega) (by omega) (by omega)
  have e4 := mul_bd (x := b) (y := d) (by omega) (by omega) (by omega) (by omega)
  unfold impl_Range_times_1.f mulLo mulHi
  rw [w64 (n := a * c) (by omega) (by omega), w64 (n := a * d) (by omega) (by omega), w64 (n := b * c) (by omega) (by omega), w64 (n := b * d) (by omega) (by omega)]
  generalize a * c = p at *
  generalize a * d = q at *
  generalize b * c = r at *
  generalize b * d = s at *
  rw [mn_is, mn_is, mn_is, mx_is, mx_is, mx_is]
  have l := lo4_le p q r s
  have u := le_hi4 p q r s
  have l0 := le_lo4 (x := -4000000000000000000) (p := p) (q := q) (r := r) (s := s) (by omega) (by omega) (by omega) (by omega)
  have u0 := hi4_le (x := 4000000000000000000) (p := p) (q := q) (r := r) (s := s) (by omega) (by omega) (by omega) (by omega)
  rw [show min (min (min p q) r) s = lo4 p q r s from rfl, show max (max (max p q) r) s = hi4 p q r s from rfl, floor_is _ _ (by omega) (by omega) (by omega)]
  simp only [Option.bind_some]
  rw [ceil_is _ _ (by omega) (by omega) (by omega)]
  rfl
theorem bothTimes_is (a b c d : Int) : impl_bothTimes.f a b c d = some (if okR a b = true ∧ okR c d = true then (if okR (mulLo a b c d) (mulHi a b c d) = true then (mulLo a b c d, mulHi a b c d, none) else (0, 0, some 0)) else (0, 0, some 0)) := by
  unfold impl_bothTimes.f
  rw [checked_is]
  simp only [Option.bind_some]
  by_cases h : okR a b = true
  · rw [if_pos h, if_pos (by rfl), checked_is]
    simp only [Option.bind_some]
    by_cases k : okR c d = true
    · rw [if_pos k, if_pos (by rfl), times1_is a b c d h k]
      simp only [Option.bind_some]
      rw [checked_is, if_pos (show okR a b = true ∧ okR c d = true from ⟨h, k⟩)]
      rfl
    · rw [if_neg k, if_neg (by decide), if_neg (fun e => k e.2)]
      rfl
  · rw [if_neg h, if_neg (by decide), if_neg (fun e => h e.1)]
    rfl
theorem times_is (a b c d : Int) : impl_Range_times.f a b c d = some (if okR a b = true ∧ okR c d = true then (if okR (mulLo a b c d) (mulHi a b c d) = true then (mulLo a b c d, mulHi a b c d, none) else (0, 0, some 0)) else (0, 0, some 0)) := by
  unfold impl_Range_times.f
  rw [bothTimes_is]
  rfl
theorem impl_mul (a b c d : Int) : impl_MulRange.f a b c d = some (mulR a b c d) := by
  unfold impl_MulRange.f mulR
  rw [times_is]
  simp only [Option.bind_some]
  rw [told_is]
  simp only [Option.bind_some]
  by_cases h : okR a b = true ∧ okR c d = true
  · rw [if_pos h, if_pos h]
    exact congrArg some (told_lim (mulLo a b c d) (mulHi a b c d))
  · rw [if_neg h, if_neg h]
    rfl
end Go.Proofs.YtbofmoelmhbpoaaDoor.Rng

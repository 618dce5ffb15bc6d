/-
  What the printed Lean functions of ranges are, over pairs of whole numbers. Conditions: they stand in each theorem.
-/
import Derived.Test.YtemigniflobdcaaDoorExtErr
import Derived.Test.YtemigniflobdcaaDoorExtThrough
import Derived.Test.YtemigniflobdcaaDoorQx12
import Derived.Test.YtemigniflobdcaaDoorQx13
import Derived.Test.YtemigniflobdcaaDoorQx14
import Derived.Test.YtemigniflobdcaaDoorQx15
import Derived.Test.YtemigniflobdcaaDoorQx2
import Derived.Test.YtemigniflobdcaaDoorQx21
import Derived.Test.YtemigniflobdcaaDoorQx22
import Derived.Test.YtemigniflobdcaaDoorQx23
import Derived.Test.YtemigniflobdcaaDoorQx24
import Derived.Test.YtemigniflobdcaaDoorQx26
import Derived.Test.YtemigniflobdcaaDoorQx27
import Derived.Test.YtemigniflobdcaaDoorQx28
import Derived.Test.YtemigniflobdcaaDoorQx29
import Derived.Test.YtemigniflobdcaaDoorQx3
import Derived.Test.YtemigniflobdcaaDoorQx5
import Derived.Test.YtemigniflobdcaaDoorQx6
import Derived.Test.YtemigniflobdcaaDoorRng
namespace Go.Proofs.YtemigniflobdcaaDoor.Rng
open Go.RowKit Go.Proofs.YtemigniflobdcaaDoor.Q Go.Proofs.YtemigniflobdcaaDoorW.PrintWords Go.Proofs.YtemigniflobdcaaDoorW.PrintLast

theorem checked_is (a b : Int) : impl_Range_checked.f a b = some (if okR a b = true then (a, b, none) else (0, 0, some 0)) := by
  unfold impl_Range_checked.f
  by_cases h : okR a b = true
  · rw [if_pos h, if_pos (okR_iff.1 h)]
  · rw [if_neg h, if_neg (fun e => h (okR_iff.2 e))]
theorem told_is (a b : Int) (e : Option Int) : impl_told.f a b e = some (if e.isNone = true then (a, b, true) else (0, 0, false)) := rfl
theorem inRange_eq (n a b : Int) : spec_inRange.f n a b = some (decide (a ≤ n ∧ n ≤ b)) := by
  unfold spec_inRange.f
  by_cases h : a ≤ n
  · rw [if_pos h]
    congr 1
    simp [h]
  · rw [if_neg h]
    congr 1
    simp [h]
theorem spec_valid (a b : Int) : spec_validRange.f a b = some (okR a b) := by
  unfold spec_validRange.f
  rw [inRange_eq]
  simp only [Option.bind_some]
  by_cases h : -2000000000 ≤ a ∧ a ≤ b
  · rw [if_pos (decide_eq_true h)]
    congr 1
    simp [okR, h]
  · rw [if_neg (by simpa using h)]
    congr 1
    simp [okR]
    omega
theorem spec_Valid (a b : Int) : spec_ValidRange.f a b = some (okR a b) := by
  unfold spec_ValidRange.f
  rw [spec_valid]
  rfl
theorem impl_valid (a b : Int) : impl_ValidRange.f a b = some (okR a b) := by
  unfold impl_ValidRange.f
  rw [checked_is]
  simp only [Option.bind_some]
  by_cases h : okR a b = true
  · rw [if_pos h, if_pos (by rfl), h]
  · rw [if_neg h, if_neg (by decide)]
    simpa using h
theorem impl_in (a b n : Int) : impl_InRange.f a b n = some (decide (okR a b = true ∧ a ≤ n ∧ n ≤ b)) := by
  unfold impl_InRange.f
  rw [impl_valid]
  simp only [Option.bind_some]
  by_cases h : okR a b = true
  · rw [if_pos h, within_eq]
    simp [h]
  · rw [if_neg h]
    simp [h]
theorem spec_in (a b n : Int) : spec_InRange.f a b n = some (decide (okR a b = true ∧ a ≤ n ∧ n ≤ b)) := by
  unfold spec_InRange.f
  rw [spec_valid]
  simp only [Option.bind_some]
  by_cases h : okR a b = true
  · rw [if_pos h, inRange_eq]
    simp [h]
  · rw [if_neg h]
    simp [h]
theorem inLimits_is (a b : Int) : spec_inLimits.f a b = some (lim a b) := by
  unfold spec_inLimits.f
  rw [spec_valid]
  simp only [Option.bind_some]
  unfold lim
  by_cases h : okR a b = true
  · rw [if_pos h, if_pos h]
  · rw [if_neg h, if_neg h]
/-- What the three results behind 'checked' are, told. -/
theorem told_lim (a b : Int) : (if (if okR a b = true then ((a, b, none) : Int × Int × Option Int) else (0, 0, some 0)).2.2.isNone = true then ((if okR a b = true then ((a, b, none) : Int × Int × Option Int) else (0, 0, some 0)).1, (if okR a b = true then ((a, b, none) : Int × Int × Option Int) else (0, 0, some 0)).2.1, true) else (0, 0, false)) = lim a b := by
  unfold lim
  by_cases h : okR a b = true
  · simp [h]
  · simp [h]
theorem spec_add (a b c d : Int) : spec_AddRange.f a b c d = some (addR a b c d) := by
  unfold spec_AddRange.f addR
  rw [spec_valid]
  simp only [Option.bind_some]
  by_cases h : okR a b = true
  · rw [if_pos h, spec_valid]
    simp only [Option.bind_some]
    by_cases k : okR c d = true
    · have h' := okR_iff.1 h
      have k' := okR_iff.1 k
      rw [if_pos k, if_pos ⟨h, k⟩, inLimits_is, w64 (by omega) (by omega), w64 (by omega) (by omega)]
      rfl
    · rw [if_neg k, if_neg (fun e => k e.2)]
  · rw [if_neg h, if_neg (fun e => h e.1)]
theorem bothPlus_is (a b c d : Int) : impl_bothPlus.f a b c d = some (if okR a b = true ∧ okR c d = true then (if okR (a + c) (b + d) = true then (a + c, b + d, none) else (0, 0, some 0)) else (0, 0, some 0)) := by
  unfold impl_bothPlus.f
  rw [checked_is]
  simp only [Option.bind_some]
  by_cases h : okR a b = true
  · rw [if_pos h, if_pos (by rfl), checked_is]
    simp only [Option.bind_some]
    by_cases k : okR c d = true
    · have h' := okR_iff.1 h
      have k' := okR_iff.1 k
      rw [if_pos k, if_pos (by rfl)]
      unfold impl_Range_plus_1.f
      simp only [Option.bind_some]
      rw [w64 (by omega) (by omega), w64 (by omega) (by omega), checked_is, if_pos (show okR a b = true ∧ okR c d = true from ⟨h, k⟩)]
      rfl
    · rw [if_neg k, if_neg (by decide), if_neg (fun e => k e.2)]
      rfl
  · rw [if_neg h, if_neg (by decide), if_neg (fun e => h e.1)]
    rfl
theorem plus_is (a b c d : Int) : impl_Range_plus.f a b c d = some (if okR a b = true ∧ okR c d = true then (if okR (a + c) (b + d) = true then (a + c, b + d, none) else (0, 0, some 0)) else (0, 0, some 0)) := by
  unfold impl_Range_plus.f
  rw [bothPlus_is]
  rfl
theorem impl_add (a b c d : Int) : impl_AddRange.f a b c d = some (addR a b c d) := by
  unfold impl_AddRange.f addR
  rw [plus_is]
  simp only [Option.bind_some]
  rw [told_is]
  simp only [Option.bind_some]
  by_cases h : okR a b = true ∧ okR c d = true
  · rw [if_pos h, if_pos h]
    exact congrArg some (told_lim (a + c) (b + d))
  · rw [if_neg h, if_neg h]
    rfl
theorem floor_is (n b : Int) (hb : 0 < b) (h0 : -9223372036854775807 ≤ n) (h1 : n ≤ 9223372036854775807) : impl_floor.f n b = some (n / b) := fl_eq n b hb h0 h1
theorem floorDiv_is (n b : Int) (hb : 0 < b) (h0 : -9223372036854775807 ≤ n) (h1 : n ≤ 9223372036854775807) : spec_floorDiv.f n b = some (n / b) := fl_eq n b hb h0 h1
theorem cdv_in (n b : Int) (hb : 0 < b) (h0 : -9223372036854775807 ≤ n) (h1 : n ≤ 9223372036854775807) : -9223372036854775808 ≤ -(-n / b) ∧ -(-n / b) ≤ 9223372036854775807 := by
  rcases Int.le_total 0 (-n) with h | h
  · have := Int.ediv_le_self b h
    have := Int.ediv_nonneg h (show (0 : Int) ≤ b by omega)
    omega
  · have h3 : -n ≤ -n / b := by
      refine le_dv hb ?_
      have : b * -n ≤ 1 * -n := Int.mul_le_mul_of_nonpos_right (by omega) h
      omega
    have h4 : -n / b ≤ 0 := dv_le hb (by omega)
    omega
theorem ceil_is (n b : Int) (hb : 0 < b) (h0 : -9223372036854775807 ≤ n) (h1 : n ≤ 9223372036854775807) : impl_ceil.f n b = some (cdv n b) := by
  unfold impl_ceil.f
  rw [w64 (by omega) (by omega), floor_is _ _ hb (by omega) (by omega)]
  simp only [Option.bind_some]
  have := cdv_in n b hb h0 h1
  rw [w64 (by omega) (by omega)]
  rfl
theorem ceilDiv_is (n b : Int) (hb : 0 < b) (h0 : -9223372036854775807 ≤ n) (h1 : n ≤ 9223372036854775807) : spec_ceilDiv.f n b = some (cdv n b) := by
  unfold spec_ceilDiv.f
  rw [w64 (by omega) (by omega), floorDiv_is _ _ hb (by omega) (by omega)]
  simp only [Option.bind_some]
  have := cdv_in n b hb h0 h1
  rw [w64 (by omega) (by omega)]
  rfl
theorem spec_divRange_is (a b c d : Int) (h : okR a b = true) (k : okR c d = true) (hc : 0 < c) : spec_divRange.f a b c d = some (divLo a d, divHi b c) := by
  have h' := okR_iff.1 h
  have k' := okR_iff.1 k
  unfold spec_divRange.f
  rw [w64 (by omega) (by omega), floorDiv_is _ _ (by omega) (by omega) (by omega), w64 (by omega) (by omega), ceilDiv_is _ _ (by omega) (by omega) (by omega)]
  rfl
theorem ratio_is (a b c d : Int) (h : okR a b = true) (k : okR c d = true) (hc : 0 < c) : impl_ratio.f a b c d = some (divLo a d, divHi b c) := by
  have h' := okR_iff.1 h
  have k' := okR_iff.1 k
  unfold impl_ratio.f
  rw [w64 (by omega) (by omega), floor_is _ _ (by omega) (by omega) (by omega), w64 (by omega) (by omega), ceil_is _ _ (by omega) (by omega) (by omega)]
  rfl
theorem spec_div (k : Nat) (hk : 1 ≤ k) (a b c d : Int) : spec_DivRange.f k a b c d = some (divR a b c d) := by
  obtain ⟨k, rfl⟩ : ∃ m, k = m + 1 := ⟨k - 1, by omega⟩
  unfold spec_DivRange.f divR
  rw [spec_valid]
  simp only [Option.bind_some, spec_DivRange.j0]
  by_cases h : okR a b = true
  · rw [if_pos h, spec_valid]
    simp only [Option.bind_some]
    by_cases g : okR c d = true
    · rw [if_pos g]
      by_cases ha : a < 0
      · rw [if_pos ha, if_pos trivial, if_neg (by omega)]
      · rw [if_neg ha]
        by_cases hc : c ≤ 0
        · rw [if_pos (decide_eq_true hc), if_neg (by omega)]
        · rw [if_neg (by simpa using hc), spec_divRange_is a b c d h g (by omega), if_pos ⟨h, g, by omega, by omega⟩]
          simp only [Option.bind_some]
          rw [inLimits_is]
          rfl
    · rw [if_neg g, if_pos trivial, if_neg (fun e => g e.2.1)]
  · rw [if_neg h, if_pos trivial, if_neg (fun e => h e.1)]
theorem bothRatio_is (a b c d : Int) (hc : 0 < c) : impl_bothRatio.f a b c d = some (if okR a b = true ∧ okR c d = true then (if okR (divLo a d) (divHi b c) = true then (divLo a d, divHi b c, none) else (0, 0, some 0)) else (0, 0, some 0)) := by
  unfold impl_bothRatio.f
  rw [checked_is]
  simp only [Option.bind_some]
  by_cases h : okR a b = true
  · rw [if_pos h, if_pos (by rfl), checked_is]
    simp only [Option.bind_some]
    by_cases k : okR c d = true
    · rw [if_pos k, if_pos (by rfl), ratio_is a b c d h k hc]
      simp only [Option.bind_some]
      rw [checked_is, if_pos (show okR a b = true ∧ okR c d = true from ⟨h, k⟩)]
      rfl
    · rw [if_neg k, if_neg (by decide), if_neg (fun e => k e.2)]
      rfl
  · rw [if_neg h, if_neg (by decide), if_neg (fun e => h e.1)]
    rfl
theorem through_is (a b c d : Int) : impl_Range_through.f a b c d = some (if okR a b = true ∧ okR c d = true ∧ 0 ≤ a ∧ 0 < c then (if okR (divLo a d) (divHi b c) = true then (divLo a d, divHi b c, none) else (0, 0, some 0)) else (0, 0, some 0)) := by
  unfold impl_Range_through.f
  by_cases h : a < 0 ∨ c ≤ 0
  · rw [if_pos h, if_neg (by omega)]
  · rw [if_neg h, bothRatio_is a b c d (by omega)]
    by_cases k : okR a b = true ∧ okR c d = true
    · rw [if_pos k, if_pos (show okR a b = true ∧ okR c d = true ∧ 0 ≤ a ∧ 0 < c from ⟨k.1, k.2, by omega, by omega⟩)]
    · rw [if_neg k, if_neg (show ¬ (okR a b = true ∧ okR c d = true ∧ 0 ≤ a ∧ 0 < c) from fun e => k ⟨e.1, e.2.1⟩)]
theorem impl_div (a b c d : Int) : impl_DivRange.f a b c d = some (divR a b c d) := by
  unfold impl_DivRange.f divR
  rw [through_is]
  simp only [Option.bind_some]
  rw [told_is]
  simp only [Option.bind_some]
  by_cases h : okR a b = true ∧ okR c d = true ∧ 0 ≤ a ∧ 0 < c
  · rw [if_pos h, if_pos h]
    exact congrArg some (told_lim (divLo a d) (divHi b c))
  · rw [if_neg h, if_neg h]
    rfl
theorem mn_is (a b : Int) : mn a b = min a b := by unfold mn; omega
theorem mx_is (a b : Int) : mx a b = max a b := by unfold mx; omega
theorem spec_mulRange_is (k : Nat) (hk : 10 ≤ k) (a b c d : Int) (h : okR a b = true) (g : okR c d = true) : spec_mulRange.f k a b c d = some (mulLo a b c d, mulHi a b c d) := by
  obtain ⟨k, rfl⟩ : ∃ m, k = m + 1 + 1 + 1 + 1 := ⟨k - 4, by omega⟩
  have h' := okR_iff.1 h
  have g' := okR_iff.1 g
  have e1 := mul_bd (x := a) (y := c) (by omega) (by omega) (by omega) (by omega)
  have e2 := mul_bd (x := a) (y := d) (by omega) (by omega) (by omega) (by omega)
  have e3 := mul_bd (x := b) (y := c) (by omega) (by omega) (by omega) (by omega)
  have e4 := mul_bd (x := b) (y := d) (by omega) (by omega) (by omega) (by omega)
  unfold spec_mulRange.f mulLo mulHi
  rw [w64 (n := a * c) (by omega) (by omega), w64 (n := a * d) (by omega) (by omega), w64 (n := b * c) (by omega) (by omega), w64 (n := b * d) (by omega) (by omega)]
  generalize a * c = p at *
  generalize a * d = q at *
  generalize b * c = r at *
  generalize b * d = s at *
  simp only [Option.bind_some]
  rw [if_pos (by simp)]
  simp only [spec_mulRange.l0]
  rw [if_pos (by decide), if_pos (by decide), if_pos (by simp), show wrap64 (1 + 1) = 2 from by decide +kernel, if_pos (by decide), if_pos (by decide), if_pos (by simp), show wrap64 (2 + 1) = 3 from by decide +kernel, if_pos (by decide), if_pos (by decide), if_pos (by simp), show wrap64 (3 + 1) = 4 from by decide +kernel, if_neg (by decide)]
  have r0 : rd [p, q, r, s] 0 = p := rfl
  have r1 : rd [p, q, r, s] 1 = q := rfl
  have r2 : rd [p, q, r, s] 2 = r := rfl
  have r3 : rd [p, q, r, s] 3 = s := rfl
  rw [r0, r1, r2, r3, mn_is, mn_is, mn_is, mx_is, mx_is, mx_is]
  have l := lo4_le p q r s
  have u := le_hi4 p q r s
  have l0 := le_lo4 (x := -4000000000000000000) (p := p) (q := q) (r := r) (s := s) (by omega) (by omega) (by omega) (by omega)
  have u0 := hi4_le (x := 4000000000000000000) (p := p) (q := q) (r := r) (s := s) (by omega) (by omega) (by omega) (by omega)
  rw [show min (min (min p q) r) s = lo4 p q r s from rfl, show max (max (max p q) r) s = hi4 p q r s from rfl, floorDiv_is _ _ (by omega) (by omega) (by omega), ceilDiv_is _ _ (by omega) (by omega) (by omega)]
  rfl
theorem spec_mul (k : Nat) (hk : 11 ≤ k) (a b c d : Int) : spec_MulRange.f k a b c d = some (mulR a b c d) := by
  obtain ⟨k, rfl⟩ : ∃ m, k = m + 1 := ⟨k - 1, by omega⟩
  unfold spec_MulRange.f mulR
  rw [spec_valid]
  simp only [Option.bind_some, spec_MulRange.j0]
  by_cases h : okR a b = true
  · rw [if_pos h, spec_valid]
    simp only [Option.bind_some]
    by_cases g : okR c d = true
    · rw [if_neg (by simp [g]), spec_mulRange_is k (by omega) a b c d h g, if_pos ⟨h, g⟩]
      simp only [Option.bind_some]
      rw [inLimits_is]
      rfl
    · rw [if_pos (by simp [g]), if_neg (fun e => g e.2)]
  · rw [if_neg h, if_pos trivial, if_neg (fun e => h e.1)]
theorem times1_is (a b c d : Int) (h : okR a b = true) (g : okR c d = true) : impl_Range_times_1.f a b c d = some (mulLo a b c d, mulHi a b c d) := by
  have h' := okR_iff.1 h
  have g' := okR_iff.1 g
  have e1 := mul_bd (x := a) (y := c) (by omega) (by omega) (by omega) (by omega)
  have e2 := mul_bd (x := a) (y := d) (by omega) (by omega) (by omega) (by omega)
  have e3 := mul_bd (x := b) (y := c) (by omega) (by omega) (by omega) (by omega)
  have e4 := mul_bd (x := b) (y := d) (by omega) (by omega) (by omega) (by omega)
  unfold impl_Range_times_1.f mulLo mulHi
  rw [w64 (n := a * c) (by omega) (by omega), w64 (n := a * d) (by omega) (by omega), w64 (n := b * c) (by omega) (by omega), w64 (n := b * d) (by omega) (by omega)]
  generalize a * c = p at *
  generalize a * d = q at *
  generalize b * c = r at *
  generalize b * d = s at *
  rw [mn_is, mn_is, mn_is, mx_is, mx_is, mx_is]
  have l := lo4_le p q r s
  have u := le_hi4 p q r s
  have l0 := le_lo4 (x := -4000000000000000000) (p := p) (q := q) (r := r) (s := s) (by omega) (by omega) (by omega) (by omega)
  have u0 := hi4_le (x := 4000000000000000000) (p := p) (q := q) (r := r) (s := s) (by omega) (by omega) (by omega) (by omega)
  rw [show min (min (min p q) r) s = lo4 p q r s from rfl, show max (max (max p q) r) s = hi4 p q r s from rfl, floor_is _ _ (by omega) (by omega) (by omega)]
  simp only [Option.bind_some]
  rw [ceil_is _ _ (by omega) (by omega) (by omega)]
  rfl
theorem bothTimes_is (a b c d : Int) : impl_bothTimes.f a b c d = some (if okR a b = true ∧ okR c d = true then (if okR (mulLo a b c d) (mulHi a b c d) = true then (mulLo a b c d, mulHi a b c d, none) else (0, 0, some 0)) else (0, 0, some 0)) := by
  unfold impl_bothTimes.f
  rw [checked_is]
  simp only [Option.bind_some]
  by_cases h : okR a b = true
  · rw [if_pos h, if_pos (by rfl), checked_is]
    simp only [Option.bind_some]
    by_cases k : okR c d = true
    · rw [if_pos k, if_pos (by rfl), times1_is a b c d h k]
      simp only [Option.bind_some]
      rw [checked_is, if_pos (show okR a b = true ∧ okR c d = true from ⟨h, k⟩)]
      rfl
    · rw [if_neg k, if_neg (by decide), if_neg (fun e => k e.2)]
      rfl
  · rw [if_neg h, if_neg (by decide), if_neg (fun e => h e.1)]
    rfl
theorem times_is (a b c d : Int) : impl_Range_times.f a b c d = some (if okR a b = true ∧ okR c d = true then (if okR (mulLo a b c d) (mulHi a b c d) = true then (mulLo a b c d, mulHi a b c d, none) else (0, 0, some 0)) else (0, 0, some 0)) := by
  unfold impl_Range_times.f
  rw [bothTimes_is]
  rfl
theorem impl_mul (a b c d : Int) : impl_MulRange.f a b c d = some (mulR a b c d) := by
  unfold impl_MulRange.f mulR
  rw [times_is]
  simp only [Option.bind_some]
  rw [told_is]
  simp only [Option.bind_some]
  by_cases h : okR a b = true ∧ okR c d = true
  · rw [if_pos h, if_pos h]
    exact congrArg some (told_lim (mulLo a b c d) (mulHi a b c d))
  · rw [if_neg h, if_neg h]
    rfl
end Go.Proofs.YtemigniflobdcaaDoor.Rng

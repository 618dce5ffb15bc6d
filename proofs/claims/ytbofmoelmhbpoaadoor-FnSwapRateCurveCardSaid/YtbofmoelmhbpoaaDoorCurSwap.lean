/-
  The rate that a bond with the value 1 pays, as the printed Lean functions compute it. Conditions: they stand in each theorem.
-/
import Derived.Test.YtbofmoelmhbpoaaDoorQx7
import Derived.Test.YtbofmoelmhbpoaaDoorQx8
import Derived.Test.YtbofmoelmhbpoaaDoorCurFun
import Derived.Test.YtbofmoelmhbpoaaDoorRngAdd
import Derived.Test.YtbofmoelmhbpoaaDoorRngDiv
namespace Go.Proofs.YtbofmoelmhbpoaaDoor.Rng
open Go.RowKit Go.Proofs.YtbofmoelmhbpoaaDoor.Q Go.Proofs.YtbofmoelmhbpoaaDoorW.PrintWords Go.Proofs.YtbofmoelmhbpoaaDoorW.PrintLast

/-- The rate that a bond with the value 1 pays, for all arguments. -/
noncomputable def swapF (c : List SR) (n : Int) : Int × Int × Bool := if okCurve (ps c) ∧ 1 ≤ n ∧ n ≤ (c.length : Int) then lim (swapV (ps c) n.toNat).1 (swapV (ps c) n.toNat).2 else (0, 0, false)
theorem together_loop (c : List SR) (hc : okCurve (ps c)) (n : Nat) (h1 : 1 ≤ n) (hn : n ≤ c.length) : ∀ (d i k : Nat), i + d + 1 = n → d < k →
    impl_Range.l0 k ((c.take n).drop 1) (((c.take n).drop 1).length : Int) (i : Int) (sL (ps c) (i + 1)) (sH (ps c) (i + 1)) = some (sL (ps c) n, sH (ps c) n, none)
  | 0, i, k, hi, hk => by
    obtain ⟨k, rfl⟩ : ∃ m, k = m + 1 := ⟨k - 1, by omega⟩
    have len : ((c.take n).drop 1).length = n - 1 := by simp; omega
    simp only [impl_Range.l0]
    rw [if_neg (by omega), show i + 1 = n by omega]
  | d + 1, i, k, hi, hk => by
    obtain ⟨k, rfl⟩ : ∃ m, k = m + 1 := ⟨k - 1, by omega⟩
    have len : ((c.take n).drop 1).length = n - 1 := by simp; omega
    have hl := hc.2.2
    rw [ps_length] at hl
    have b0 := sLH_bd hc.1 (i + 1) (by rw [ps_length]; omega)
    have b1 := sLH_bd hc.1 (i + 2) (by rw [ps_length]; omega)
    have kk := hc.1 (i + 1) (by rw [ps_length]; omega)
    have at1 : (ps ((c.take n).drop 1)).getD i (0, 0) = (ps c).getD (i + 1) (0, 0) := by
      have e : ps ((c.take n).drop 1) = ((ps c).take n).drop 1 := by simp [ps, List.map_take]
      rw [e]
      simp only [List.getD, List.getElem?_drop]
      rw [show 1 + i = i + 1 by omega, List.getElem?_take_of_lt (by omega)]
    have e0 : sL (ps c) (i + 1) + ((ps c).getD (i + 1) (0, 0)).1 = sL (ps c) (i + 2) := rfl
    have e1 : sH (ps c) (i + 1) + ((ps c).getD (i + 1) (0, 0)).2 = sH (ps c) (i + 2) := rfl
    simp only [impl_Range.l0]
    rw [if_pos (by omega), if_pos (by omega), if_pos (by omega), rd0, rd1, show ((i : Int)).toNat = i by omega, at1, plus_is, if_pos ⟨okR_of b0.2.1 (by omega) (by omega), okC_R kk⟩, e0, e1, if_pos (okR_of b1.2.1 (by omega) (by omega))]
    simp only [Option.bind_some]
    rw [if_pos (by rfl), w64 (n := (i : Int) + 1) (by omega) (by omega), show (i : Int) + 1 = ((i + 1 : Nat) : Int) by omega]
    exact together_loop c hc n h1 hn d (i + 1) k (by omega) (by omega)
theorem impl_swap (k : Nat) (c : List SR) (n : Int) (hl : c.length ≤ 1048576) (hk : c.length + 2 < k) : impl_SwapRate.f k c n = some (swapF c n) := by
  unfold impl_SwapRate.f swapF impl_yearsIn.f
  rw [impl_cv k c hl (by omega)]
  simp only [Option.bind_some]
  by_cases q : okCurve (ps c)
  · rw [if_pos (decide_eq_true q), within_eq]
    simp only [Option.bind_some]
    by_cases g : 1 ≤ n ∧ n ≤ (c.length : Int)
    · obtain ⟨n, rfl⟩ := Int.eq_ofNat_of_zero_le (show 0 ≤ n by omega)
      obtain ⟨n, rfl⟩ : ∃ m, n = m + 1 := ⟨n - 1, by omega⟩
      have hn : n + 1 ≤ (ps c).length := by rw [ps_length]; omega
      obtain ⟨a, b1, b2, b3, b4, b5⟩ := swapV_bd q (show 1 ≤ n + 1 by omega) hn
      rw [after_succ] at a b1 b3
      obtain ⟨a0, a1, a2⟩ := a
      have hll := q.2.2
      have tg : impl_Range.f k ((rd_T30 c 0).f0) ((rd_T30 c 0).f1) ((c.take (n + 1)).drop 1) = some (sL (ps c) (n + 1), sH (ps c) (n + 1), none) := by
        have e := together_loop c q (n + 1) (by omega) (by omega) n 0 k (by omega) (by omega)
        have z0 : sL (ps c) (0 + 1) = ((ps c).getD 0 (0, 0)).1 := Int.zero_add _
        have z1 : sH (ps c) (0 + 1) = ((ps c).getD 0 (0, 0)).2 := Int.zero_add _
        rw [z0, z1] at e
        unfold impl_Range.f
        rw [rd0, rd1]
        exact e
      rw [if_pos (decide_eq_true g), if_pos (show okCurve (ps c) ∧ 1 ≤ ((n + 1 : Nat) : Int) ∧ ((n + 1 : Nat) : Int) ≤ (c.length : Int) from ⟨q, g⟩), if_pos (by omega), if_pos (by omega), if_pos (by omega), show (((n + 1 : Nat) : Int)).toNat = n + 1 by omega, tg]
      simp only [Option.bind_some]
      rw [if_pos (by rfl), exactly_is]
      simp only [Option.bind_some]
      unfold impl_apart.f
      rw [w64 (n := ((n + 1 : Nat) : Int) - 1) (by omega) (by omega), if_pos (by omega), if_pos (by omega), rd0, rd1, show (((n + 1 : Nat) : Int) - 1).toNat = n by omega]
      simp only [Option.bind_some]
      rw [w64 (n := 1000000 - ((ps c).getD n (0, 0)).2) (by omega) (by omega), w64 (n := 1000000 - ((ps c).getD n (0, 0)).1) (by omega) (by omega), through_is, if_pos ⟨b1, b2, b3, b4⟩]
      simp only [Option.bind_some]
      rw [told_is]
      simp only [Option.bind_some]
      exact congrArg some (told_lim (divLo (1000000 - ((ps c).getD n (0, 0)).2) (sH (ps c) (n + 1))) (divHi (1000000 - ((ps c).getD n (0, 0)).1) (sL (ps c) (n + 1))))
    · rw [if_neg (by simpa using g), if_neg (fun e => g e.2)]
  · rw [if_neg (by simpa using q)]
    simp only [Option.bind_some]
    rw [if_neg (by simp), if_neg (fun e => q e.1)]
end Go.Proofs.YtbofmoelmhbpoaaDoor.Rng

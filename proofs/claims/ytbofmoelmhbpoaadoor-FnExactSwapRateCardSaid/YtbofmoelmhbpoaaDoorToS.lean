/-
  The copies of a slice of ranges (printed Lean functions). Conditions: they stand in each theorem.
-/
import Derived.Test.YtbofmoelmhbpoaaDoorQx13
import Derived.Test.YtbofmoelmhbpoaaDoorCurBase
namespace Go.Proofs.YtbofmoelmhbpoaaDoor.Rng
open Go.RowKit Go.Proofs.YtbofmoelmhbpoaaDoor.Q Go.Proofs.YtbofmoelmhbpoaaDoorW.PrintWords Go.Proofs.YtbofmoelmhbpoaaDoorW.PrintLast

abbrev SA := S63
def cv (x : SA) : SR := ⟨x.f0, x.f1⟩
theorem toRangeS_loop (l : List SA) (hl : l.length ≤ 1048576) : ∀ (d i k : Nat) (y : List SR), i + d = l.length → d < k → y.length = l.length → (∀ j, j < i → y.getD j z30 = cv (l.getD j z63)) → laws_toRangeS.l0 k l y (i : Int) = some (l.map cv)
  | 0, i, k, y, hi, hk, hy, he => by
    obtain ⟨k, rfl⟩ : ∃ m, k = m + 1 := ⟨k - 1, by omega⟩
    simp only [laws_toRangeS.l0]
    rw [if_neg (by omega)]
    refine congrArg some (List.ext_getElem (by simpa using hy) fun j h1 h2 => ?_)
    have h3 : j < l.length := by omega
    have := he j (by omega)
    rw [List.getD_eq_getElem?_getD, List.getElem?_eq_getElem h1, List.getD_eq_getElem?_getD, List.getElem?_eq_getElem h3] at this
    simpa using this
  | d + 1, i, k, y, hi, hk, hy, he => by
    obtain ⟨k, rfl⟩ : ∃ m, k = m + 1 := ⟨k - 1, by omega⟩
    simp only [laws_toRangeS.l0]
    unfold laws_toRange.f
    simp only [Option.bind_some]
    rw [if_pos (by omega), if_pos (by omega), if_pos (by omega), w64 (by omega) (by omega), show (i : Int) + 1 = ((i + 1 : Nat) : Int) by omega]
    refine toRangeS_loop l hl d (i + 1) k _ (by omega) (by omega) (by simpa using hy) fun j hj => ?_
    rw [show ((i : Int)).toNat = i by omega]
    rcases Nat.lt_or_ge j i with g | g
    · rw [← he j g]
      simp [List.getD, show i ≠ j by omega]
    · obtain rfl : j = i := by omega
      simp [List.getD, rd_T63, cv, show j < y.length by omega]
theorem toRangeS_is (k : Nat) (l : List SA) (hl : l.length ≤ 1048576) (hk : l.length < k) : laws_toRangeS.f k l = some (l.map cv) := by
  unfold laws_toRangeS.f
  rw [if_pos (by omega), if_pos (by omega)]
  exact toRangeS_loop l hl l.length 0 k _ (by omega) hk (by simp) (fun j hj => absurd hj (by omega))
theorem szRangeS_is (l : List SA) (hl : l.length ≤ 9223372036854775807) : laws_szRangeS.f l 1048576 = some (if l.length ≤ 1048576 then 1048576 - (l.length : Int) else -1) := by
  unfold laws_szRangeS.f
  rw [w64 (by omega) (by omega)]
  by_cases h : l.length ≤ 1048576
  · rw [if_neg (by omega), if_pos h]
  · rw [if_pos (by omega), if_neg h]
end Go.Proofs.YtbofmoelmhbpoaaDoor.Rng

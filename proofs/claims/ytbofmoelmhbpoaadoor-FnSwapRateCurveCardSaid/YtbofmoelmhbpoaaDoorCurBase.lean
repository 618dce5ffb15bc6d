/-
  Slices of ranges of the printed Lean functions, as lists of pairs. Conditions: they stand in each theorem.
-/
import Derived.Test.YtbofmoelmhbpoaaDoorQx3
import Derived.Test.YtbofmoelmhbpoaaDoorQx6
import Derived.Test.YtbofmoelmhbpoaaDoorRngBase
import Derived.Test.YtbofmoelmhbpoaaDoorCurveMore
namespace Go.Proofs.YtbofmoelmhbpoaaDoor.Rng
open Go.RowKit Go.Proofs.YtbofmoelmhbpoaaDoor.Q Go.Proofs.YtbofmoelmhbpoaaDoorW.PrintWords Go.Proofs.YtbofmoelmhbpoaaDoorW.PrintLast

abbrev SR := S30
def toP (x : SR) : Int × Int := (x.f0, x.f1)
def toS (p : Int × Int) : SR := ⟨p.1, p.2⟩
theorem toS_toP (x : SR) : toS (toP x) = x := rfl
theorem toP_toS (p : Int × Int) : toP (toS p) = p := rfl
/-- A slice as pairs. -/
def ps (c : List SR) : List (Int × Int) := c.map toP
theorem ps_length (c : List SR) : (ps c).length = c.length := by simp [ps]
theorem ps_toS (c : List (Int × Int)) : ps (c.map toS) = c := by
  unfold ps
  rw [List.map_map, show toP ∘ toS = id from rfl, List.map_id]
theorem toS_ps (c : List SR) : (ps c).map toS = c := by
  unfold ps
  rw [List.map_map, show toS ∘ toP = id from rfl, List.map_id]
theorem rd_eq (c : List SR) (i : Int) : rd_T30 c i = toS ((ps c).getD i.toNat (0, 0)) := by
  unfold rd_T30 ps
  rw [show ((0, 0) : Int × Int) = toP z30 from rfl]
  rcases Nat.lt_or_ge i.toNat c.length with h | h
  · simp [List.getD, List.getElem?_eq_getElem h, toS_toP]
  · simp [List.getD, List.getElem?_eq_none h, toS_toP]
theorem rd0 (c : List SR) (i : Int) : (rd_T30 c i).f0 = ((ps c).getD i.toNat (0, 0)).1 := by rw [rd_eq]; rfl
theorem rd1 (c : List SR) (i : Int) : (rd_T30 c i).f1 = ((ps c).getD i.toNat (0, 0)).2 := by rw [rd_eq]; rfl
theorem exactly_is (n : Int) : impl_exactly.f n = some (n, n) := rfl
theorem equalRanges_loop (c : List SR) (hl : c.length ≤ 4611686018427387904) : ∀ (d i k : Nat), i + d = c.length → d < k → laws_equalRanges.l0 k c c (i : Int) = some true
  | 0, i, k, hi, hk => by
    obtain ⟨k, rfl⟩ : ∃ m, k = m + 1 := ⟨k - 1, by omega⟩
    simp only [laws_equalRanges.l0]
    rw [if_neg (by omega)]
  | d + 1, i, k, hi, hk => by
    obtain ⟨k, rfl⟩ : ∃ m, k = m + 1 := ⟨k - 1, by omega⟩
    simp only [laws_equalRanges.l0]
    rw [if_pos (by omega), if_pos (by omega), if_pos (by omega), if_neg (by simp), w64 (by omega) (by omega), show (i : Int) + 1 = ((i + 1 : Nat) : Int) by omega]
    exact equalRanges_loop c hl d (i + 1) k (by omega) (by omega)
theorem equalRanges_self (k : Nat) (c : List SR) (hl : c.length ≤ 4611686018427387904) (hk : c.length < k) : laws_equalRanges.f k c c = some true := by
  unfold laws_equalRanges.f
  rw [if_pos rfl]
  exact equalRanges_loop c hl c.length 0 k (by omega) hk
end Go.Proofs.YtbofmoelmhbpoaaDoor.Rng

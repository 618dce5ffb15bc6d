/-
  Slices of ranges of the printed Lean functions, as lists of pairs. Conditions: they stand in each theorem.
-/
import Derived.Test.YtomhnfajnbhaoaaDoorQx10
import Derived.Test.YtomhnfajnbhaoaaDoorQx3
import Derived.Test.YtomhnfajnbhaoaaDoorQx6
import Derived.Test.YtomhnfajnbhaoaaDoorRngBase
import Derived.Test.YtomhnfajnbhaoaaDoorCurveMore
namespace Go.Proofs.YtomhnfajnbhaoaaDoor.Rng
open Go.RowKit Go.Proofs.YtomhnfajnbhaoaaDoor.Q Go.Proofs.YtomhnfajnbhaoaaDoorW.PrintWords Go.Proofs.YtomhnfajnbhaoaaDoorW.PrintLast

abbrev SR := S30
def toP (x : SR) : Int × Int := (x.f0, x.f1)
def toS (p : Int × Int) : SR := ⟨p.1, p.2⟩
theorem toS_toP (x : SR) : toS (toP x) = x := rfl
theorem toP_toS (p : Int × Int) : toP (toS p) = p := rfl
/-- A slice as pairs. -/
def ps (c : List SR) : List (Int × Int) := c.map toP
theorem ps_length (c : List SR) : (ps c).length = c.length := by simp [ps]
theorem ps_toS (c : List (Int × Int)) : ps (c.map toS) = c := by
  unfold ps
  rw [List.map_map, show toP ∘ toS = id from rfl, List.map_id]
theorem toS_ps (c : List SR) : (ps c).map toS = c := by
  unfold ps
  rw [List.map_map, show toS ∘ toP = id from rfl, List.map_id]
theorem rd_eq (c : List SR) (i : Int) : rd_T30 c i = toS ((ps c).getD i.toNat (0, 0)) := by
  unfold rd_T30 ps
  rw [show ((0, 0) : Int × Int) = toP z30 from rfl]
  rcases Nat.lt_or_ge i.toNat c.length with h | h
  · simp [List.getD, List.getElem?_eq_getElem h, toS_toP]
  · simp [List.getD, List.getElem?_eq_none h, toS_toP]
theorem rd0 (c : List SR) (i : Int) : (rd_T30 c i).f0 = ((ps c).getD i.toNat (0, 0)).1 := by rw [rd_eq]; rfl
theorem rd1 (c : List SR) (i : Int) : (rd_T30 c i).f1 = ((ps c).getD i.toNat (0, 0)).2 := by rw [rd_eq]; rfl
theorem exactly_is (n : Int) : impl_exactly.f n = some (n, n) := rfl
theorem eqRange_self (a b : Int) : laws_eqRange.f a b a b = some true := by
  unfold laws_eqRange.f
  rw [if_pos rfl, if_pos rfl]
theorem eqRangeS_loop (c : List SR) (hl : c.length ≤ 4611686018427387904) : ∀ (d i k : Nat), i + d = c.length → d < k → laws_eqRangeS.l0 k c c (i : Int) = some true
  | 0, i, k, hi, hk => by
    obtain ⟨k, rfl⟩ : ∃ m, k = m + 1 := ⟨k - 1, by omega⟩
    simp only [laws_eqRangeS.l0]
    rw [if_neg (by omega)]
  | d + 1, i, k, hi, hk => by
    obtain ⟨k, rfl⟩ : ∃ m, k = m + 1 := ⟨k - 1, by omega⟩
    simp only [laws_eqRangeS.l0]
    rw [if_pos (by omega), if_pos (by omega), if_pos (by omega), eqRange_self]
    simp only [Option.bind_some]
    rw [if_pos trivial, w64 (by omega) (by omega), show (i : Int) + 1 = ((i + 1 : Nat) : Int) by omega]
    exact eqRangeS_loop c hl d (i + 1) k (by omega) (by omega)
theorem eqRangeS_self (k : Nat) (c : List SR) (hl : c.length ≤ 4611686018427387904) (hk : c.length < k) : laws_eqRangeS.f k c c = some true := by
  unfold laws_eqRangeS.f
  rw [if_pos rfl]
  exact eqRangeS_loop c hl c.length 0 k (by omega) hk
theorem equalRanges_loop (c : List SR) (hl : c.length ≤ 4611686018427387904) : ∀ (d i k : Nat), i + d = c.length → d < k → laws_equalRanges.l0 k c c (i : Int) = some true
  | 0, i, k, hi, hk => by
    obtain ⟨k, rfl⟩ : ∃ m, k = m + 1 := ⟨k - 1, by omega⟩
    simp only [laws_equalRanges.l0]
    rw [if_neg (by omega)]
  | d + 1, i, k, hi, hk => by
    obtain ⟨k, rfl⟩ : ∃ m, k = m + 1 := ⟨k - 1, by omega⟩
    simp only [laws_equalRanges.l0]
    rw [if_pos (by omega), if_pos (by omega), if_pos (by omega), if_neg (by simp), w64 (by omega) (by omega), show (i : Int) + 1 = ((i + 1 : Nat) : Int) by omega]
    exact equalRanges_loop c hl d (i + 1) k (by omega) (by omega)
theorem equalRanges_self (k : Nat) (c : List SR) (hl : c.length ≤ 4611686018427387904) (hk : c.length < k) : laws_equalRanges.f k c c = some true := by
  unfold laws_equalRanges.f
  rw [if_pos rfl]
  exact equalRanges_loop c hl c.length 0 k (by omega) hk
theorem toIntS_loop (l : List Int) (hl : l.length ≤ 4611686018427387904) : ∀ (d i k : Nat) (y : List Int), i + d = l.length → d < k → y.length = l.length → (∀ j, j < i → y.getD j 0 = l.getD j 0) → laws_toIntS.l0 k l y (i : Int) = some l
  | 0, i, k, y, hi, hk, hy, he => by
    obtain ⟨k, rfl⟩ : ∃ m, k = m + 1 := ⟨k - 1, by omega⟩
    simp only [laws_toIntS.l0]
    rw [if_neg (by omega)]
    refine congrArg some (List.ext_getElem hy fun j h1 h2 => ?_)
    have := he j (by omega)
    simpa [List.getD, List.getElem?_eq_getElem h1, List.getElem?_eq_getElem h2] using this
  | d + 1, i, k, y, hi, hk, hy, he => by
    obtain ⟨k, rfl⟩ : ∃ m, k = m + 1 := ⟨k - 1, by omega⟩
    simp only [laws_toIntS.l0]
    rw [if_pos (by omega), if_pos (by omega), if_pos (by omega), w64 (by omega) (by omega), show (i : Int) + 1 = ((i + 1 : Nat) : Int) by omega]
    refine toIntS_loop l hl d (i + 1) k _ (by omega) (by omega) (by simpa using hy) fun j hj => ?_
    have e : ((i : Int)).toNat = i := by omega
    rw [e]
    rcases Nat.lt_or_ge j i with g | g
    · rw [← he j g]
      simp [List.getD, show i ≠ j by omega]
    · have : j = i := by omega
      subst this
      simp [List.getD, rd, show j < y.length by omega]
theorem toIntS_is (k : Nat) (l : List Int) (hl : l.length ≤ 1048576) (hk : l.length < k) : laws_toIntS.f k l = some l := by
  unfold laws_toIntS.f
  rw [if_pos (by omega), if_pos (by omega)]
  exact toIntS_loop l (by omega) l.length 0 k _ (by omega) hk (by simp) (fun j hj => absurd hj (by omega))
theorem eqIntS_loop (c : List Int) (hl : c.length ≤ 4611686018427387904) : ∀ (d i k : Nat), i + d = c.length → d < k → laws_eqIntS.l0 k c c (i : Int) = some true
  | 0, i, k, hi, hk => by
    obtain ⟨k, rfl⟩ : ∃ m, k = m + 1 := ⟨k - 1, by omega⟩
    simp only [laws_eqIntS.l0]
    rw [if_neg (by omega)]
  | d + 1, i, k, hi, hk => by
    obtain ⟨k, rfl⟩ : ∃ m, k = m + 1 := ⟨k - 1, by omega⟩
    simp only [laws_eqIntS.l0]
    rw [if_pos (by omega), if_pos (by omega), if_pos (by omega), if_pos trivial, w64 (by omega) (by omega), show (i : Int) + 1 = ((i + 1 : Nat) : Int) by omega]
    exact eqIntS_loop c hl d (i + 1) k (by omega) (by omega)
theorem eqIntS_self (k : Nat) (c : List Int) (hl : c.length ≤ 4611686018427387904) (hk : c.length < k) : laws_eqIntS.f k c c = some true := by
  unfold laws_eqIntS.f
  rw [if_pos rfl]
  exact eqIntS_loop c hl c.length 0 k (by omega) hk
theorem markIntS_loop (n : Nat) (hn : n ≤ 1048576) : ∀ (d i k : Nat) (l : List Int) (x : Int), l.length = n → i + d = n → d < k → 0 ≤ x → x ≤ i + 1 → ∃ y, laws_markIntS.l0 k l x (i : Int) = some (x + d, y)
  | 0, i, k, l, x, hl, hi, hk, h0, h1 => by
    obtain ⟨k, rfl⟩ : ∃ m, k = m + 1 := ⟨k - 1, by omega⟩
    simp only [laws_markIntS.l0]
    rw [if_neg (by omega)]
    exact ⟨l, by simp⟩
  | d + 1, i, k, l, x, hl, hi, hk, h0, h1 => by
    obtain ⟨k, rfl⟩ : ∃ m, k = m + 1 := ⟨k - 1, by omega⟩
    simp only [laws_markIntS.l0]
    rw [if_pos (by omega), if_pos (by omega), w64 (n := x + 1) (by omega) (by omega), w64 (by omega) (by omega), show (i : Int) + 1 = ((i + 1 : Nat) : Int) by omega]
    obtain ⟨y, hy⟩ := markIntS_loop n hn d (i + 1) k (l.set (i : Int).toNat x) (x + 1) (by simpa using hl) (by omega) (by omega) (by omega) (by omega)
    exact ⟨y, by rw [hy, show x + ((d + 1 : Nat) : Int) = x + 1 + d by omega]⟩
theorem markIntS_is (k : Nat) (l : List Int) (hl : l.length ≤ 1048576) (hk : l.length < k) : ∃ y, laws_markIntS.f k l 1 = some (1 + (l.length : Int), y) := by
  unfold laws_markIntS.f
  exact markIntS_loop l.length hl l.length 0 k l 1 rfl (by omega) hk (by omega) (by omega)
theorem heldRangeS_loop (c : List SR) (n : Nat) (hc : c.length = n) (hn : n ≤ 1048576) (h : ∀ j, j < n → (ps c).getD j (0, 0) = (2 * (j : Int) + 1, 2 * (j : Int) + 2)) : ∀ (d i k : Nat), i + d = n → d < k → laws_heldRangeS.l0 k c (2 * (i : Int) + 1) (i : Int) = some (2 * (n : Int) + 1)
  | 0, i, k, hi, hk => by
    obtain ⟨k, rfl⟩ : ∃ m, k = m + 1 := ⟨k - 1, by omega⟩
    simp only [laws_heldRangeS.l0]
    rw [if_neg (by omega), show i = n by omega]
  | d + 1, i, k, hi, hk => by
    obtain ⟨k, rfl⟩ : ∃ m, k = m + 1 := ⟨k - 1, by omega⟩
    simp only [laws_heldRangeS.l0]
    rw [if_pos (by omega), if_pos (by omega), rd0, rd1, show ((i : Int)).toNat = i by omega, h i (by omega), if_pos rfl, w64 (n := 2 * (i : Int) + 1 + 1) (by omega) (by omega), if_pos (show (2 * (i : Int) + 2 : Int) = 2 * (i : Int) + 1 + 1 by omega), w64 (by omega) (by omega), w64 (by omega) (by omega)]
    rw [show 2 * (i : Int) + 1 + 1 + 1 = 2 * ((i + 1 : Nat) : Int) + 1 by omega, show (i : Int) + 1 = ((i + 1 : Nat) : Int) by omega]
    exact heldRangeS_loop c n hc hn h d (i + 1) k (by omega) (by omega)
theorem ps_set (c : List SR) (i : Nat) (x : SR) : ps (c.set i x) = (ps c).set i (toP x) := by simp [ps, List.map_set]
theorem getD_set {α : Type} (c : List α) (i j : Nat) (x d : α) (h : i < c.length) : (c.set i x).getD j d = if i = j then x else c.getD j d := by
  by_cases e : i = j
  · subst e
    rw [if_pos rfl]
    simp [List.getD, h]
  · rw [if_neg e]
    simp [List.getD, e]
theorem markRangeS_loop (n : Nat) (hn : n ≤ 1048576) : ∀ (d i k : Nat) (c : List SR), c.length = n → i + d = n → d < k → (∀ j, j < i → (ps c).getD j (0, 0) = (2 * (j : Int) + 1, 2 * (j : Int) + 2)) →
    ∃ y, laws_markRangeS.l0 k c (2 * (i : Int) + 1) (i : Int) = some (2 * (n : Int) + 1, y) ∧ y.length = n ∧ ∀ j, j < n → (ps y).getD j (0, 0) = (2 * (j : Int) + 1, 2 * (j : Int) + 2)
  | 0, i, k, c, hc, hi, hk, h => by
    obtain ⟨k, rfl⟩ : ∃ m, k = m + 1 := ⟨k - 1, by omega⟩
    simp only [laws_markRangeS.l0]
    obtain rfl : i = n := by omega
    rw [if_neg (by omega)]
    exact ⟨c, rfl, hc, h⟩
  | d + 1, i, k, c, hc, hi, hk, h => by
    obtain ⟨k, rfl⟩ : ∃ m, k = m + 1 := ⟨k - 1, by omega⟩
    simp only [laws_markRangeS.l0]
    rw [if_pos (by omega), if_pos (by omega)]
    simp only [Option.bind_some]
    rw [w64 (n := 2 * (i : Int) + 1 + 1) (by omega) (by omega), w64 (n := 2 * (i : Int) + 1 + 1 + 1) (by omega) (by omega), w64 (by omega) (by omega)]
    rw [show 2 * (i : Int) + 1 + 1 + 1 = 2 * ((i + 1 : Nat) : Int) + 1 by omega, show (i : Int) + 1 = ((i + 1 : Nat) : Int) by omega]
    refine markRangeS_loop n hn d (i + 1) k _ (by simpa using hc) (by omega) (by omega) fun j hj => ?_
    have e : ((i : Int)).toNat = i := by omega
    rw [rd0, ps_set, ps_set, e, getD_set _ _ _ _ _ (by rw [List.length_set, ps_length]; omega), getD_set _ _ _ _ _ (by rw [ps_length]; omega), getD_set _ _ _ _ _ (by rw [ps_length]; omega)]
    by_cases g : i = j
    · subst g
      rw [if_pos rfl, if_pos rfl]
      show ((2 * (i : Int) + 1, 2 * (i : Int) + 1 + 1) : Int × Int) = _
      rw [show 2 * (i : Int) + 1 + 1 = 2 * (i : Int) + 2 by omega]
    · rw [if_neg g, if_neg g]
      exact h j (by omega)
theorem markRangeS_is (k : Nat) (c : List SR) (hl : c.length ≤ 1048576) (hk : c.length < k) : ∃ y, laws_markRangeS.f k c 1 = some (2 * (c.length : Int) + 1, y) ∧ ∀ k', c.length < k' → laws_heldRangeS.f k' y 1 = some (2 * (c.length : Int) + 1) := by
  unfold laws_markRangeS.f laws_heldRangeS.f
  obtain ⟨y, h1, h2, h3⟩ := markRangeS_loop c.length hl c.length 0 k c rfl (by omega) hk (fun j hj => absurd hj (by omega))
  exact ⟨y, h1, fun k' hk' => heldRangeS_loop y c.length h2 hl h3 c.length 0 k' (by omega) hk'⟩
end Go.Proofs.YtomhnfajnbhaoaaDoor.Rng

/-
  The laws' own copies and comparisons of lists of numbers (printed Lean functions): a copy is the list, and equal to itself. Conditions: at most 2^20 elements.
-/
import Derived.Test.YtnfcljokgnebmaaDoorQx19
namespace Go.Proofs.YtnfcljokgnebmaaDoor.Pure
open Go.RowKit Go.Proofs.YtnfcljokgnebmaaDoor.Q Go.Proofs.YtnfcljokgnebmaaDoorW.PrintWords Go.Proofs.YtnfcljokgnebmaaDoorW.PrintLast

theorem cw64 {n : Int} (h0 : -9223372036854775808 ≤ n) (h1 : n ≤ 9223372036854775807) : wrap64 n = n := by unfold wrap64; omega
theorem toIntS_l (l : List Int) (hl : l.length ≤ 1048576) : ∀ (d : Nat) (x3 : List Int) (i k : Nat), l.length - i = d → i ≤ l.length → x3.length = l.length → x3.take i = l.take i → d < k → laws_toIntS.l0 k l x3 (i : Int) = some l := by
  intro d
  induction d with
  | zero =>
    intro x3 i k hd hi h3 ht hk
    obtain ⟨k, rfl⟩ : ∃ m, k = m + 1 := ⟨k - 1, by omega⟩
    simp only [laws_toIntS.l0]
    rw [if_neg (by omega)]
    rw [List.take_of_length_le (by omega), List.take_of_length_le (by omega)] at ht
    rw [ht]
  | succ d ih =>
    intro x3 i k hd hi h3 ht hk
    obtain ⟨k, rfl⟩ : ∃ m, k = m + 1 := ⟨k - 1, by omega⟩
    simp only [laws_toIntS.l0]
    rw [if_pos (by omega), if_pos (by omega), if_pos (by omega), cw64 (by omega) (by omega), show ((i : Int) + 1) = ((i + 1 : Nat) : Int) by omega, show ((i : Int)).toNat = i by omega]
    refine ih _ (i + 1) k (by omega) (by omega) (by simpa using h3) ?_ (by omega)
    have hi2 : i < l.length := by omega
    rw [List.take_succ_eq_append_getElem (by simpa [h3] using hi2), List.take_succ_eq_append_getElem hi2, List.take_set_of_le (Nat.le_refl i), ht]
    simp [rd, List.getD, List.getElem?_eq_getElem hi2]
theorem toIntS_eq (l : List Int) (hl : l.length ≤ 1048576) (k : Nat) (hk : l.length < k) : laws_toIntS.f k l = some l := by
  unfold laws_toIntS.f
  rw [if_pos (by omega), if_pos (by omega), show ((l.length : Int)).toNat = l.length by omega]
  exact toIntS_l l hl l.length (List.replicate l.length 0) 0 k (by omega) (by omega) (by simp) (by simp) hk
theorem eqIntS_l (l : List Int) (hl : l.length ≤ 1048576) : ∀ (d i k : Nat), l.length - i = d → i ≤ l.length → d < k → laws_eqIntS.l0 k l l (i : Int) = some true := by
  intro d
  induction d with
  | zero =>
    intro i k hd hi hk
    obtain ⟨k, rfl⟩ : ∃ m, k = m + 1 := ⟨k - 1, by omega⟩
    simp only [laws_eqIntS.l0]
    rw [if_neg (by omega)]
  | succ d ih =>
    intro i k hd hi hk
    obtain ⟨k, rfl⟩ : ∃ m, k = m + 1 := ⟨k - 1, by omega⟩
    simp only [laws_eqIntS.l0]
    rw [if_pos (by omega), if_pos (by omega), if_pos (by omega), if_pos trivial, cw64 (by omega) (by omega), show ((i : Int) + 1) = ((i + 1 : Nat) : Int) by omega]
    exact ih (i + 1) k (by omega) (by omega) (by omega)
theorem eqIntS_eq (l : List Int) (hl : l.length ≤ 1048576) (k : Nat) (hk : l.length < k) : laws_eqIntS.f k l l = some true := by
  unfold laws_eqIntS.f
  rw [if_pos rfl]
  exact eqIntS_l l hl l.length 0 k (by omega) (by omega) hk
end Go.Proofs.YtnfcljokgnebmaaDoor.Pure

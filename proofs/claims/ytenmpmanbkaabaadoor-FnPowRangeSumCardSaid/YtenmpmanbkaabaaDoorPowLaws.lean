/-
  PowRange (printed Lean functions of the program and of the reference): the power of a range. Conditions: they stand in each theorem.
-/
import Derived.Test.YtenmpmanbkaabaaDoorQx2
import Derived.Test.YtenmpmanbkaabaaDoorQx3
import Derived.Test.YtenmpmanbkaabaaDoorQx7
import Derived.Test.YtenmpmanbkaabaaDoorQx8
import Derived.Test.YtenmpmanbkaabaaDoorRngMul
import Derived.Test.YtenmpmanbkaabaaDoorPow
namespace Go.Proofs.YtenmpmanbkaabaaDoor.Rng
open Go.RowKit Go.Proofs.YtenmpmanbkaabaaDoor.Q Go.Proofs.YtenmpmanbkaabaaDoorW.PrintWords Go.Proofs.YtenmpmanbkaabaaDoorW.PrintLast

theorem mulR_false {a b c d : Int} (h : ¬ (mulR a b c d).2.2 = true) : mulR a b c d = (0, 0, false) := by
  unfold mulR lim at h ⊢
  by_cases k : okR a b = true ∧ okR c d = true
  · rw [if_pos k] at h ⊢
    by_cases g : okR (mulLo a b c d) (mulHi a b c d) = true
    · rw [if_pos g] at h
      exact absurd rfl h
    · rw [if_neg g]
  · rw [if_neg k]
theorem times_mul (a b c d : Int) : impl_Range_times.f a b c d = some (if (mulR a b c d).2.2 = true then ((mulR a b c d).1, (mulR a b c d).2.1, none) else (0, 0, some 0)) := by
  rw [times_is]
  unfold mulR lim
  by_cases k : okR a b = true ∧ okR c d = true
  · rw [if_pos k, if_pos k]
    by_cases g : okR (mulLo a b c d) (mulHi a b c d) = true
    · rw [if_pos g, if_pos g]
      simp
    · rw [if_neg g, if_neg g]
      simp
  · rw [if_neg k, if_neg k]
    simp
theorem powR_false {a b : Int} : ∀ {n : Nat}, ¬ (powR a b n).2.2 = true → powR a b n = (0, 0, false)
  | 0, h => absurd rfl h
  | n + 1, h => by
    by_cases k : (powR a b n).2.2 = true
    · rw [powR_succ a b n k] at h ⊢
      exact mulR_false h
    · exact powR_no a b n k
theorem powR_dead {a b : Int} {n : Nat} (h : ¬ (powR a b n).2.2 = true) : ∀ d, powR a b (n + d) = (0, 0, false)
  | 0 => powR_false h
  | d + 1 => powR_no a b (n + d) (by rw [powR_dead h d]; decide)
theorem triple_true {x : Int × Int × Bool} (h : x.2.2 = true) : (x.1, x.2.1, true) = x := by
  obtain ⟨a, b, c⟩ := x
  cases h
  rfl
theorem implLoop (a b : Int) (N : Nat) (hN : N ≤ 40) : ∀ (d i k : Nat), i + d = N → d < k → (powR a b i).2.2 = true → impl_PowRange.l0 k (N : Int) (i : Int) a b (powR a b i).1 (powR a b i).2.1 = some (powR a b N)
  | 0, i, k, hi, hk, h => by
    obtain ⟨k, rfl⟩ : ∃ m, k = m + 1 := ⟨k - 1, by omega⟩
    simp only [impl_PowRange.l0]
    obtain rfl : i = N := by omega
    rw [if_neg (by omega), triple_true h]
  | d + 1, i, k, hi, hk, h => by
    obtain ⟨k, rfl⟩ : ∃ m, k = m + 1 := ⟨k - 1, by omega⟩
    simp only [impl_PowRange.l0]
    rw [if_pos (by omega), times_mul, ← powR_succ a b i h]
    simp only [Option.bind_some]
    by_cases g : (powR a b (i + 1)).2.2 = true
    · rw [if_pos g, if_pos (by rfl), w64 (by omega) (by omega), show (i : Int) + 1 = ((i + 1 : Nat) : Int) by omega]
      exact implLoop a b N hN d (i + 1) k (by omega) (by omega) g
    · rw [if_neg g, if_neg (by decide)]
      have := powR_dead g (N - (i + 1))
      rw [show i + 1 + (N - (i + 1)) = N by omega] at this
      rw [this]
theorem specLoop (a b : Int) (N : Nat) (hN : N ≤ 40) : ∀ (d i k : Nat), i + d = N → d + 12 < k → (powR a b i).2.2 = true → spec_PowRange.l0 k (N : Int) (i : Int) a b (powR a b i).1 (powR a b i).2.1 = some (powR a b N)
  | 0, i, k, hi, hk, h => by
    obtain ⟨k, rfl⟩ : ∃ m, k = m + 1 := ⟨k - 1, by omega⟩
    simp only [spec_PowRange.l0]
    obtain rfl : i = N := by omega
    rw [if_neg (by omega), triple_true h]
  | d + 1, i, k, hi, hk, h => by
    obtain ⟨k, rfl⟩ : ∃ m, k = m + 1 := ⟨k - 1, by omega⟩
    simp only [spec_PowRange.l0]
    rw [if_pos (by omega), spec_mul k (by omega), ← powR_succ a b i h]
    simp only [Option.bind_some]
    by_cases g : (powR a b (i + 1)).2.2 = true
    · rw [if_pos g, w64 (by omega) (by omega), show (i : Int) + 1 = ((i + 1 : Nat) : Int) by omega]
      exact specLoop a b N hN d (i + 1) k (by omega) (by omega) g
    · rw [if_neg g]
      have := powR_dead g (N - (i + 1))
      rw [show i + 1 + (N - (i + 1)) = N by omega] at this
      rw [this]
def powF (a b n : Int) : Int × Int × Bool := if okR a b = true ∧ 0 ≤ a ∧ 0 ≤ n ∧ n ≤ 40 then powR a b n.toNat else (0, 0, false)
theorem powF_yes {a b n : Int} (h : okR a b = true) (ha : 0 ≤ a) (h0 : 0 ≤ n) (h1 : n ≤ 40) : powF a b n = powR a b n.toNat := if_pos ⟨h, ha, h0, h1⟩
theorem powF_ok {a b n : Int} (h : (powF a b n).2.2 = true) : okR a b = true ∧ 0 ≤ a ∧ 0 ≤ n ∧ n ≤ 40 ∧ powF a b n = powR a b n.toNat ∧ (powR a b n.toNat).2.2 = true := by
  unfold powF at h ⊢
  by_cases k : okR a b = true ∧ 0 ≤ a ∧ 0 ≤ n ∧ n ≤ 40
  · rw [if_pos k] at h ⊢
    exact ⟨k.1, k.2.1, k.2.2.1, k.2.2.2, rfl, h⟩
  · rw [if_neg k] at h
    cases h
theorem impl_pow (k : Nat) (hk : 60 ≤ k) (a b n : Int) : impl_PowRange.f k a b n = some (powF a b n) := by
  obtain ⟨k, rfl⟩ : ∃ m, k = m + 1 := ⟨k - 1, by omega⟩
  unfold impl_PowRange.f powF
  rw [impl_valid]
  simp only [Option.bind_some, impl_PowRange.j0]
  by_cases h : okR a b = true
  · rw [if_pos h]
    by_cases ha : a < 0
    · rw [if_pos ha, if_pos trivial, if_neg (by omega)]
    · rw [if_neg ha, within_eq]
      simp only [Option.bind_some]
      by_cases hn : 0 ≤ n ∧ n ≤ 40
      · rw [if_neg (by simp [hn]), if_pos ⟨h, by omega, hn.1, hn.2⟩]
        unfold impl_exactly.f
        simp only [Option.bind_some]
        have := implLoop a b n.toNat (by omega) n.toNat 0 k (by omega) (by omega) rfl
        rw [show ((n.toNat : Nat) : Int) = n by omega] at this
        exact this
      · rw [if_pos (by simp; omega), if_neg (fun e => hn e.2.2)]
  · rw [if_neg h, if_pos trivial, if_neg (fun e => h e.1)]
theorem spec_pow (k : Nat) (hk : 60 ≤ k) (a b n : Int) : spec_PowRange.f k a b n = some (powF a b n) := by
  obtain ⟨k, rfl⟩ : ∃ m, k = m + 1 := ⟨k - 1, by omega⟩
  unfold spec_PowRange.f powF
  rw [spec_valid]
  simp only [Option.bind_some, spec_PowRange.j0]
  by_cases h : okR a b = true
  · rw [if_pos h]
    by_cases ha : a < 0
    · rw [if_pos ha, if_pos trivial, if_neg (by omega)]
    · rw [if_neg ha, inRange_eq]
      simp only [Option.bind_some]
      by_cases hn : 0 ≤ n ∧ n ≤ 40
      · rw [if_neg (by simp [hn]), if_pos ⟨h, by omega, hn.1, hn.2⟩]
        unfold spec_exact.f
        rw [show wrap64 (1 * 1000000) = 1000000 from by decide +kernel]
        simp only [Option.bind_some]
        have := specLoop a b n.toNat (by omega) n.toNat 0 k (by omega) (by omega) rfl
        rw [show ((n.toNat : Nat) : Int) = n by omega] at this
        exact this
      · rw [if_pos (by simp; omega), if_neg (fun e => hn e.2.2)]
  · rw [if_neg h, if_pos trivial, if_neg (fun e => h e.1)]
end Go.Proofs.YtenmpmanbkaabaaDoor.Rng

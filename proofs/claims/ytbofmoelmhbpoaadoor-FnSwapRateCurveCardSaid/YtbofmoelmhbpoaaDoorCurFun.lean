/-
  What the printed Lean functions on curves are, over lists of pairs: validity, certain fall, forward rates, values between years. Conditions: they stand in each theorem.
-/
import Derived.Test.YtbofmoelmhbpoaaDoorQx7
import Derived.Test.YtbofmoelmhbpoaaDoorRngDiv
import Derived.Test.YtbofmoelmhbpoaaDoorRngFl
import Derived.Test.YtbofmoelmhbpoaaDoorCurBase
namespace Go.Proofs.YtbofmoelmhbpoaaDoor.Rng
open Go.RowKit Go.Proofs.YtbofmoelmhbpoaaDoor.Q Go.Proofs.YtbofmoelmhbpoaaDoorW.PrintWords Go.Proofs.YtbofmoelmhbpoaaDoorW.PrintLast

noncomputable instance decCurve (c : List (Int × Int)) : Decidable (okCurve c) := Classical.propDecidable _
theorem okC_iff (p : Int × Int) : okC p ↔ okR p.1 p.2 = true ∧ ¬ p.1 ≤ 0 ∧ ¬ p.2 > 1000000 := by
  constructor
  · intro h
    have k := okC_R h
    obtain ⟨h1, h2, h3⟩ := h
    exact ⟨k, by omega, by omega⟩
  · rintro ⟨h1, h2, h3⟩
    have k := okR_iff.1 h1
    exact ⟨by omega, by omega, by omega⟩
theorem okCs_of {c : List SR} {i : Nat} (h : ∀ j, j < i → okC ((ps c).getD j (0, 0))) (hi : okC ((ps c).getD i (0, 0))) : ∀ j, j < i + 1 → okC ((ps c).getD j (0, 0)) := fun j hj => by
  rcases Nat.lt_or_ge j i with g | g
  · exact h j g
  · rw [show j = i by omega]
    exact hi
theorem impl_cv_loop (c : List SR) (hl : c.length ≤ 1048576) : ∀ (d i k : Nat), i + d = c.length → d < k → (∀ j, j < i → okC ((ps c).getD j (0, 0))) → impl_curveValid.l0 k c c (c.length : Int) (i : Int) = some (decide (okCurve (ps c)))
  | 0, i, k, hi, hk, h => by
    obtain ⟨k, rfl⟩ : ∃ m, k = m + 1 := ⟨k - 1, by omega⟩
    simp only [impl_curveValid.l0]
    rw [if_neg (by omega), within_eq]
    simp only [Option.bind_some]
    have hc : okCs (ps c) := fun j hj => h j (by rw [ps_length] at hj; omega)
    refine congrArg some (decide_eq_decide.2 ⟨fun e => ⟨hc, by rw [ps_length]; omega, by rw [ps_length]; omega⟩, fun e => ?_⟩)
    have e1 := e.2.1
    have e2 := e.2.2
    rw [ps_length] at e1 e2
    omega
  | d + 1, i, k, hi, hk, h => by
    obtain ⟨k, rfl⟩ : ∃ m, k = m + 1 := ⟨k - 1, by omega⟩
    simp only [impl_curveValid.l0]
    rw [if_pos (by omega), if_pos (by omega), if_pos (by omega), rd0, rd1, show ((i : Int)).toNat = i by omega, impl_valid]
    simp only [Option.bind_some]
    by_cases q : okC ((ps c).getD i (0, 0))
    · obtain ⟨q1, q2, q3⟩ := (okC_iff _).1 q
      rw [if_pos q1, if_neg q2, if_neg q3, w64 (by omega) (by omega), show (i : Int) + 1 = ((i + 1 : Nat) : Int) by omega]
      exact impl_cv_loop c hl d (i + 1) k (by omega) (by omega) (okCs_of h q)
    · have no : decide (okCurve (ps c)) = false := decide_eq_false (fun e => q (e.1 i (by rw [ps_length]; omega)))
      rw [no]
      by_cases q1 : okR ((ps c).getD i (0, 0)).1 ((ps c).getD i (0, 0)).2 = true
      · rw [if_pos q1]
        by_cases q2 : ((ps c).getD i (0, 0)).1 ≤ 0
        · rw [if_pos q2]
        · rw [if_neg q2]
          by_cases q3 : ((ps c).getD i (0, 0)).2 > 1000000
          · rw [if_pos q3]
          · exact absurd ((okC_iff _).2 ⟨q1, q2, q3⟩) q
      · rw [if_neg q1]
theorem impl_cv (k : Nat) (c : List SR) (hl : c.length ≤ 1048576) (hk : c.length < k) : impl_curveValid.f k c = some (decide (okCurve (ps c))) := by
  unfold impl_curveValid.f
  exact impl_cv_loop c hl c.length 0 k (by omega) hk (fun j hj => absurd hj (by omega))
/-- A curve that certainly falls. -/
def sureP (c : List (Int × Int)) : Prop := okCurve c ∧ ∀ j, 1 ≤ j → j < c.length → (c.getD j (0, 0)).2 ≤ (c.getD (j - 1) (0, 0)).1
noncomputable instance decSure (c : List (Int × Int)) : Decidable (sureP c) := Classical.propDecidable _
/-- The rate from a year to the next one, for all arguments. -/
noncomputable def fwdF (c : List SR) (k : Int) : Int × Int × Bool := if okCurve (ps c) ∧ 0 ≤ k ∧ k ≤ (c.length : Int) - 1 then ((fwd (ps c) k.toNat).1, (fwd (ps c) k.toNat).2, true) else (0, 0, false)
/-- The value of 1 after some months, for all arguments. -/
noncomputable def valF (c : List SR) (m : Int) : Int × Int × Bool := if okCurve (ps c) ∧ 0 ≤ m ∧ m ≤ 12 * (c.length : Int) then ((valV (ps c) (m / 12).toNat (m % 12)).1, (valV (ps c) (m / 12).toNat (m % 12)).2, true) else (0, 0, false)
end Go.Proofs.YtbofmoelmhbpoaaDoor.Rng

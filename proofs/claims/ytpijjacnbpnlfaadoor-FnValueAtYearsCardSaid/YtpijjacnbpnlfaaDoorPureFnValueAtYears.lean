/-
  The pure statement of FnValueAtYears (printed Lean functions). Conditions: none beyond the statement's own.
-/
import Derived.Test.YtpijjacnbpnlfaaDoorQx16
import Derived.Test.YtpijjacnbpnlfaaDoorCurFun
import Derived.Test.YtpijjacnbpnlfaaDoorDrawCurve
namespace Go.Proofs.YtpijjacnbpnlfaaDoor.Pure
open Go.RowKit Go.Proofs.YtpijjacnbpnlfaaDoor.Q Go.Proofs.YtpijjacnbpnlfaaDoorW.PrintWords Go.Proofs.YtpijjacnbpnlfaaDoorW.PrintLast Go.Proofs.YtpijjacnbpnlfaaDoor.Rng

theorem FnValueAtYears : laws_FnValueAtYears.Pure := by
  intro l hm hl hw
  refine ⟨200, ?_⟩
  unfold laws_FnValueAtYears.f
  by_cases hbig : (l.length : Int) > 1048576
  · rw [if_pos hbig]
  rw [if_neg hbig]
  obtain ⟨c, n, hd, hc, m0, m1⟩ := drawVal_ok 200 l (by omega) hw
  rw [hd]
  simp only [Option.bind_some]
  rw [impl_val _ _ _ (by omega) (by omega), spec_val _ _ _ (by omega) (by omega)]
  simp only [Option.bind_some]
  rw [if_neg (by simp), if_neg (by simp)]
  by_cases hno : ¬ (valF c n).2.2 = true
  · rw [show (!(valF c n).2.2) = true by simpa using hno]
    show laws_FnValueAtYears.j0 (199 + 1) _ _ _ _ _ _ _ _ = some true
    simp only [laws_FnValueAtYears.j0]
    rw [if_pos trivial]
    simp
  have hok := Classical.not_not.1 hno
  rw [show (!(valF c n).2.2) = false by simp [hok]]
  have hin : okCurve (ps c) ∧ 0 ≤ n ∧ n ≤ 12 * (c.length : Int) := by
    refine Classical.byContradiction fun e => ?_
    unfold valF at hok
    rw [if_neg e] at hok
    cases hok
  obtain ⟨k0, n0, n1⟩ := hin
  have vF : ∀ m : Int, 0 ≤ m → m ≤ 12 * (c.length : Int) → valF c m = ((valV (ps c) (m / 12).toNat (m % 12)).1, (valV (ps c) (m / 12).toNat (m % 12)).2, true) := fun m a b => by
    unfold valF
    rw [if_pos ⟨k0, a, b⟩]
  show laws_FnValueAtYears.j0 (199 + 1) _ _ _ _ _ _ _ _ = some true
  simp only [laws_FnValueAtYears.j0]
  rw [if_neg (by simp)]
  have loop : ∀ (d i k : Nat), i + d = c.length + 1 → 1 ≤ i → d + 50 < k → laws_FnValueAtYears.l0 k c (i : Int) = some true := by
    intro d
    induction d with
    | zero =>
      intro i k hi h1 hk
      obtain ⟨k, rfl⟩ : ∃ m, k = m + 1 := ⟨k - 1, by omega⟩
      simp only [laws_FnValueAtYears.l0]
      rw [if_neg (by omega)]
    | succ d ih =>
      intro i k hi h1 hk
      obtain ⟨k, rfl⟩ : ∃ m, k = m + 1 := ⟨k - 1, by omega⟩
      simp only [laws_FnValueAtYears.l0]
      obtain ⟨j, rfl⟩ : ∃ j, i = j + 1 := ⟨i - 1, by omega⟩
      rw [if_pos (by omega), w64 (n := 12 * ((j + 1 : Nat) : Int)) (by omega) (by omega), impl_val _ _ _ (by omega) (by omega), vF _ (by omega) (by omega)]
      simp only [Option.bind_some]
      rw [show (12 * ((j + 1 : Nat) : Int) / 12).toNat = j + 1 by omega, show 12 * ((j + 1 : Nat) : Int) % 12 = 0 by omega, show valV (ps c) (j + 1) 0 = (ps c).getD j (0, 0) from rfl]
      rw [if_pos trivial, w64 (n := ((j + 1 : Nat) : Int) - 1) (by omega) (by omega), if_pos (by omega), if_pos (by omega), rd0, rd1, show (((j + 1 : Nat) : Int) - 1).toNat = j by omega, if_neg (by simp), w64 (by omega) (by omega), show ((j + 1 : Nat) : Int) + 1 = ((j + 1 + 1 : Nat) : Int) by omega]
      exact ih (j + 1 + 1) k (by omega) (by omega) (by omega)
  exact loop c.length 1 199 (by omega) (by omega) (by omega)
end Go.Proofs.YtpijjacnbpnlfaaDoor.Pure

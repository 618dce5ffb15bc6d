/-
  The pure statement of FnParValue (printed Lean functions). Conditions: none beyond the statement's own.
-/
import Derived.Test.YtpijjacnbpnlfaaDoorQx9
import Derived.Test.YtpijjacnbpnlfaaDoorCurPar
import Derived.Test.YtpijjacnbpnlfaaDoorDrawCurve
namespace Go.Proofs.YtpijjacnbpnlfaaDoor.Pure
open Go.RowKit Go.Proofs.YtpijjacnbpnlfaaDoor.Q Go.Proofs.YtpijjacnbpnlfaaDoorW.PrintWords Go.Proofs.YtpijjacnbpnlfaaDoorW.PrintLast Go.Proofs.YtpijjacnbpnlfaaDoor.Rng

theorem FnParValue : laws_FnParValue.Pure := by
  intro l hm hl hw
  refine ⟨200, ?_⟩
  unfold laws_FnParValue.f
  by_cases hbig : (l.length : Int) > 1048576
  · rw [if_pos hbig]
  rw [if_neg hbig]
  obtain ⟨c, r, n, hd, hc, r0, r1⟩ := drawPar_ok 200 l (by omega) hw
  rw [hd]
  simp only [Option.bind_some]
  rw [impl_par _ _ _ _ (by omega) (by omega), spec_par _ _ _ _ (by omega) (by omega)]
  simp only [Option.bind_some]
  rw [if_neg (by simp), if_neg (by simp)]
  by_cases hno : ¬ (parF c r n).2.2 = true
  · rw [show (!(parF c r n).2.2) = true by simpa using hno]
    show laws_FnParValue.j0 (199 + 1) _ _ _ _ _ _ _ _ _ _ = some true
    simp only [laws_FnParValue.j0]
    rw [if_pos trivial]
    simp
  have hok := Classical.not_not.1 hno
  rw [show (!(parF c r n).2.2) = false by simp [hok]]
  have hin : okCurve (ps c) ∧ (0 ≤ r ∧ r ≤ 3000) ∧ 1 ≤ n ∧ n ≤ (c.length : Int) := by
    refine Classical.byContradiction fun e => ?_
    unfold parF at hok
    rw [if_neg e] at hok
    cases hok
  obtain ⟨k0, ⟨g0, g1⟩, n0, n1⟩ := hin
  obtain ⟨n, rfl⟩ := Int.eq_ofNat_of_zero_le (show 0 ≤ n by omega)
  obtain ⟨n, rfl⟩ : ∃ m, n = m + 1 := ⟨n - 1, by omega⟩
  have hn : n + 1 ≤ (ps c).length := by rw [ps_length]; omega
  have pF : ∀ x : Int, 0 ≤ x → x ≤ 3000 → parF c x ((n + 1 : Nat) : Int) = ((parV (ps c) x (n + 1)).1, (parV (ps c) x (n + 1)).2, true) := fun x a b => by
    unfold parF
    rw [if_pos ⟨k0, ⟨a, b⟩, n0, n1⟩, show (((n + 1 : Nat) : Int)).toNat = n + 1 by omega]
  have em : 0 ≤ mn (r + 1) 3000 ∧ mn (r + 1) 3000 ≤ 3000 ∧ r ≤ mn (r + 1) 3000 := by unfold mn; omega
  obtain ⟨m1, m2⟩ := parV_mono k0 g0 em.2.2 hn
  have ml := parV_le k0 g0 hn
  show laws_FnParValue.j0 (199 + 1) _ _ _ _ _ _ _ _ _ _ = some true
  simp only [laws_FnParValue.j0]
  rw [if_neg (by simp), w64 (n := r + 1) (by omega) (by omega), impl_par _ _ _ _ (by omega) (by omega), impl_par _ _ _ _ (by omega) (by omega), pF 0 (by omega) (by omega), pF r g0 g1, pF _ em.1 em.2.1]
  simp only [Option.bind_some]
  rw [if_pos trivial, w64 (n := ((n + 1 : Nat) : Int) - 1) (by omega) (by omega), if_pos (by omega), if_pos (by omega), rd0, rd1, show (((n + 1 : Nat) : Int) - 1).toNat = n by omega, parV_zero, after_succ]
  rw [if_pos (by simp), if_pos trivial, if_pos (show _ ≥ _ from m1), if_pos (show _ ≥ _ from m2)]
  exact congrArg some (decide_eq_true ml)
end Go.Proofs.YtpijjacnbpnlfaaDoor.Pure

/-
  The pure statement of FnValueAt (printed Lean functions). Conditions: none beyond the statement's own.
-/
import Derived.Test.YtpijjacnbpnlfaaDoorQx15
import Derived.Test.YtpijjacnbpnlfaaDoorCurFun
import Derived.Test.YtpijjacnbpnlfaaDoorDrawCurve
import Derived.Test.YtpijjacnbpnlfaaDoorRngMul
namespace Go.Proofs.YtpijjacnbpnlfaaDoor.Pure
open Go.RowKit Go.Proofs.YtpijjacnbpnlfaaDoor.Q Go.Proofs.YtpijjacnbpnlfaaDoorW.PrintWords Go.Proofs.YtpijjacnbpnlfaaDoorW.PrintLast Go.Proofs.YtpijjacnbpnlfaaDoor.Rng

theorem FnValueAt : laws_FnValueAt.Pure := by
  intro l hm hl hw
  refine ⟨200, ?_⟩
  unfold laws_FnValueAt.f
  by_cases hbig : (l.length : Int) > 1048576
  · rw [if_pos hbig]
  rw [if_neg hbig]
  obtain ⟨c, n, hd, hc, m0, m1⟩ := drawVal_ok 200 l (by omega) hw
  rw [hd]
  simp only [Option.bind_some]
  rw [impl_val _ _ _ (by omega) (by omega), spec_val _ _ _ (by omega) (by omega)]
  simp only [Option.bind_some]
  rw [if_neg (by simp), if_neg (by simp)]
  by_cases hno : ¬ (valF c n).2.2 = true
  · rw [show (!(valF c n).2.2) = true by simpa using hno]
    show laws_FnValueAt.j0 (199 + 1) _ _ _ _ _ _ _ _ _ = some true
    simp only [laws_FnValueAt.j0]
    rw [if_pos trivial]
    simp
  have hok := Classical.not_not.1 hno
  rw [show (!(valF c n).2.2) = false by simp [hok]]
  have hin : okCurve (ps c) ∧ 0 ≤ n ∧ n ≤ 12 * (c.length : Int) := by
    refine Classical.byContradiction fun e => ?_
    unfold valF at hok
    rw [if_neg e] at hok
    cases hok
  obtain ⟨k0, n0, n1⟩ := hin
  have vF : ∀ m : Int, 0 ≤ m → m ≤ 12 * (c.length : Int) → valF c m = ((valV (ps c) (m / 12).toNat (m % 12)).1, (valV (ps c) (m / 12).toNat (m % 12)).2, true) := fun m a b => by
    unfold valF
    rw [if_pos ⟨k0, a, b⟩]
  show laws_FnValueAt.j0 (199 + 1) _ _ _ _ _ _ _ _ _ = some true
  simp only [laws_FnValueAt.j0]
  rw [if_neg (by simp)]
  obtain ⟨y, hy⟩ := Int.eq_ofNat_of_zero_le (show 0 ≤ n / 12 by omega)
  have ylen : y ≤ c.length := by omega
  rw [Int.tdiv_eq_ediv_of_nonneg n0, w64 (n := n / 12) (by omega) (by omega), hy, w64 (n := (y : Int) * 12) (by omega) (by omega), w64 (n := n + 11) (by omega) (by omega), Int.tdiv_eq_ediv_of_nonneg (by omega), w64 (n := (n + 11) / 12) (by omega) (by omega), w64 (n := (n + 11) / 12 * 12) (by omega) (by omega), w64 (n := 12 * (c.length : Int)) (by omega) (by omega)]
  rw [impl_val _ _ _ (by omega) (by omega), impl_val _ _ _ (by omega) (by omega), impl_val _ _ _ (by omega) (by omega)]
  simp only [Option.bind_some]
  have a1 : valF c ((y : Int) * 12) = ((after (ps c) y).1, (after (ps c) y).2, true) := by
    rw [vF _ (by omega) (by omega), show ((y : Int) * 12 / 12).toNat = y by omega, show (y : Int) * 12 % 12 = 0 by omega]
    rfl
  have a3 : valF c 0 = (1000000, 1000000, true) := by
    rw [vF _ (by omega) (by omega)]
    rfl
  have hv := vF n n0 n1
  rw [hy, show ((y : Int)).toNat = y by omega] at hv
  obtain ⟨p1, p2, p3⟩ := after_ok k0.1 (show y ≤ (ps c).length by rw [ps_length]; omega)
  by_cases r : n % 12 = 0
  · have em : mn ((n + 11) / 12 * 12) (12 * (c.length : Int)) = (y : Int) * 12 := by
      unfold mn
      omega
    rw [em, a1, a3, hv, r, show valV (ps c) y 0 = after (ps c) y from rfl]
    have e1 : mn (after (ps c) y).1 (after (ps c) y).1 = (after (ps c) y).1 := by unfold mn; omega
    have e2 : mx (after (ps c) y).2 (after (ps c) y).2 = (after (ps c) y).2 := by unfold mx; omega
    rw [if_pos (by rfl), if_pos (by rfl), if_pos (by rfl), if_pos (by rfl)]
    show (if (after (ps c) y).1 ≥ mn (after (ps c) y).1 (after (ps c) y).1 then if (after (ps c) y).2 ≤ mx (after (ps c) y).2 (after (ps c) y).2 then some (decide ((after (ps c) y).1 ≤ (after (ps c) y).2)) else some false else some false) = some true
    rw [e1, e2, if_pos (Int.le_refl _), if_pos (Int.le_refl _)]
    exact congrArg some (decide_eq_true p2)
  · have em : mn ((n + 11) / 12 * 12) (12 * (c.length : Int)) = ((y + 1 : Nat) : Int) * 12 := by
      unfold mn
      omega
    obtain ⟨q1, q2, q3⟩ := after_ok k0.1 (show y + 1 ≤ (ps c).length by rw [ps_length]; omega)
    have a2 : valF c (((y + 1 : Nat) : Int) * 12) = ((after (ps c) (y + 1)).1, (after (ps c) (y + 1)).2, true) := by
      rw [vF _ (by omega) (by omega), show (((y + 1 : Nat) : Int) * 12 / 12).toNat = y + 1 by omega, show ((y + 1 : Nat) : Int) * 12 % 12 = 0 by omega]
      rfl
    have vv : valV (ps c) y (n % 12) = (((12 - n % 12) * (after (ps c) y).1 + n % 12 * (after (ps c) (y + 1)).1) / 12, cdv ((12 - n % 12) * (after (ps c) y).2 + n % 12 * (after (ps c) (y + 1)).2) 12) := by
      unfold valV
      rw [if_neg r]
    rw [em, a1, a2, a3, hv, vv]
    have t0 : 0 ≤ n % 12 := by omega
    have t1 : n % 12 ≤ 12 := by omega
    generalize n % 12 = t at *
    generalize after (ps c) y = A at *
    generalize after (ps c) (y + 1) = B at *
    have g1 : mn A.1 B.1 ≤ ((12 - t) * A.1 + t * B.1) / 12 := mid_low t0 t1 (by unfold mn; omega) (by unfold mn; omega)
    have g2 : cdv ((12 - t) * A.2 + t * B.2) 12 ≤ mx A.2 B.2 := mid_high t0 t1 (by unfold mx; omega) (by unfold mx; omega)
    rw [if_pos (by rfl), if_pos (by rfl), if_pos (by rfl), if_pos (by rfl)]
    show (if ((12 - t) * A.1 + t * B.1) / 12 ≥ mn A.1 B.1 then if cdv ((12 - t) * A.2 + t * B.2) 12 ≤ mx A.2 B.2 then some (decide (((12 - t) * A.1 + t * B.1) / 12 ≤ cdv ((12 - t) * A.2 + t * B.2) 12)) else some false else some false) = some true
    rw [if_pos g1, if_pos g2]
    exact congrArg some (decide_eq_true (mid_le t0 t1 p2 q2))
end Go.Proofs.YtpijjacnbpnlfaaDoor.Pure

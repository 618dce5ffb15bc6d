/-
  The pure statement of FnForwardOf (printed Lean functions). Conditions: none beyond the statement's own.
-/
import Derived.Test.YtpijjacnbpnlfaaDoorQx18
import Derived.Test.YtpijjacnbpnlfaaDoorQx19
import Derived.Test.YtpijjacnbpnlfaaDoorCurFun
import Derived.Test.YtpijjacnbpnlfaaDoorDrawCurve
import Derived.Test.YtpijjacnbpnlfaaDoorRngMul
namespace Go.Proofs.YtpijjacnbpnlfaaDoor.Pure
open Go.RowKit Go.Proofs.YtpijjacnbpnlfaaDoor.Q Go.Proofs.YtpijjacnbpnlfaaDoorW.PrintWords Go.Proofs.YtpijjacnbpnlfaaDoorW.PrintLast Go.Proofs.YtpijjacnbpnlfaaDoor.Rng

theorem FnForwardOf : laws_FnForwardOf.Pure := by
  intro l hm hl hw
  refine ⟨200, ?_⟩
  unfold laws_FnForwardOf.f
  by_cases hbig : (l.length : Int) > 1048576
  · rw [if_pos hbig]
  rw [if_neg hbig]
  obtain ⟨c, n, hd, hc⟩ := drawFwd_ok 200 l (by omega) hw
  rw [hd]
  simp only [Option.bind_some]
  rw [impl_fwd _ _ _ (by omega) (by omega), spec_fwd _ _ _ (by omega) (by omega)]
  simp only [Option.bind_some]
  rw [if_neg (by simp), if_neg (by simp)]
  by_cases hno : ¬ (fwdF c n).2.2 = true
  · rw [show (!(fwdF c n).2.2) = true by simpa using hno]
    show laws_FnForwardOf.j0 (199 + 1) _ _ _ _ _ _ _ _ _ = some true
    simp only [laws_FnForwardOf.j0]
    rw [if_pos trivial]
    simp
  have hok := Classical.not_not.1 hno
  rw [show (!(fwdF c n).2.2) = false by simp [hok]]
  have hin : okCurve (ps c) ∧ 0 ≤ n ∧ n ≤ (c.length : Int) - 1 := by
    refine Classical.byContradiction fun e => ?_
    unfold fwdF at hok
    rw [if_neg e] at hok
    cases hok
  obtain ⟨k0, n0, n1⟩ := hin
  have hv : fwdF c n = ((fwd (ps c) n.toNat).1, (fwd (ps c) n.toNat).2, true) := by
    unfold fwdF
    rw [if_pos ⟨k0, n0, n1⟩]
  obtain ⟨n, rfl⟩ := Int.eq_ofNat_of_zero_le n0
  rw [show ((n : Int)).toNat = n by omega] at hv
  have k2 := k0.2.2
  rw [ps_length] at k2
  obtain ⟨a, b, e0, e1, e2⟩ := fwd_bd k0 (k := n) (by rw [ps_length]; omega)
  obtain ⟨b1, b2, b3⟩ := b
  obtain ⟨a1, a2, a3⟩ := a
  show laws_FnForwardOf.j0 (199 + 1) _ _ _ _ _ _ _ _ _ = some true
  simp only [laws_FnForwardOf.j0]
  rw [if_neg (by simp), hv]
  have f1 : (fwd (ps c) n).1 = divLo (after (ps c) n).1 ((ps c).getD n (0, 0)).2 - 1000000 := rfl
  have f2 : (fwd (ps c) n).2 = divHi (after (ps c) n).2 ((ps c).getD n (0, 0)).1 - 1000000 := rfl
  have key : ∀ u v : Int, (u, v) = after (ps c) n → ((impl_MulRange.f (wrap64 ((fwd (ps c) n).1 + 1000000)) (wrap64 ((fwd (ps c) n).2 + 1000000)) ((ps c).getD n (0, 0)).1 ((ps c).getD n (0, 0)).2).bind fun bt => (if (fwd (ps c) n).1 ≤ (fwd (ps c) n).2 then (if bt.2.2 = true then ((laws_within.f u v bt.1 bt.2.1).bind fun t => (some t)) else (some true)) else (some false))) = some true := by
    intro u v huv
    rw [f1, f2, show divLo (after (ps c) n).1 ((ps c).getD n (0, 0)).2 - 1000000 + 1000000 = divLo (after (ps c) n).1 ((ps c).getD n (0, 0)).2 by omega, show divHi (after (ps c) n).2 ((ps c).getD n (0, 0)).1 - 1000000 + 1000000 = divHi (after (ps c) n).2 ((ps c).getD n (0, 0)).1 by omega, w64 (by omega) (by omega), w64 (by omega) (by omega), impl_mul]
    simp only [Option.bind_some]
    rw [if_pos (by omega)]
    by_cases g : (mulR (divLo (after (ps c) n).1 ((ps c).getD n (0, 0)).2) (divHi (after (ps c) n).2 ((ps c).getD n (0, 0)).1) ((ps c).getD n (0, 0)).1 ((ps c).getD n (0, 0)).2).2.2 = true
    · obtain ⟨_, _, _, hm⟩ := mulR_ok g
      obtain ⟨d1, d2⟩ := div_within (a := (after (ps c) n).1) (b := (after (ps c) n).2) (by omega) a2 b1 b2
      rw [if_pos g, hm]
      unfold laws_within.f
      rw [← huv] at d1 d2 ⊢
      rw [if_pos d1]
      exact congrArg some (decide_eq_true d2)
    · rw [if_neg g]
  match n, key with
  | 0, key =>
    rw [if_neg (by omega), if_pos (by omega), if_pos (by omega), rd0, rd1, show (((0 : Nat) : Int)).toNat = 0 from rfl]
    exact key 1000000 1000000 rfl
  | n + 1, key =>
    rw [if_pos (by omega), w64 (n := ((n + 1 : Nat) : Int) - 1) (by omega) (by omega), if_pos (by omega), if_pos (by omega), if_pos (by omega), if_pos (by omega), rd0, rd1, rd0, rd1, show (((n + 1 : Nat) : Int) - 1).toNat = n by omega, show (((n + 1 : Nat) : Int)).toNat = n + 1 by omega]
    exact key _ _ rfl
end Go.Proofs.YtpijjacnbpnlfaaDoor.Pure

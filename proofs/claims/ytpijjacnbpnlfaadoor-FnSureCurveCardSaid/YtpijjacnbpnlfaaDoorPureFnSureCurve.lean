/-
  The pure statement of FnSureCurve (printed Lean functions). Conditions: none beyond the statement's own.
-/
import Derived.Test.YtpijjacnbpnlfaaDoorQx12
import Derived.Test.YtpijjacnbpnlfaaDoorCurFun
import Derived.Test.YtpijjacnbpnlfaaDoorDrawCurve
namespace Go.Proofs.YtpijjacnbpnlfaaDoor.Pure
open Go.RowKit Go.Proofs.YtpijjacnbpnlfaaDoor.Q Go.Proofs.YtpijjacnbpnlfaaDoorW.PrintWords Go.Proofs.YtpijjacnbpnlfaaDoorW.PrintLast Go.Proofs.YtpijjacnbpnlfaaDoor.Rng

theorem FnSureCurve : laws_FnSureCurve.Pure := by
  intro l hm hl hw
  refine ⟨200, ?_⟩
  unfold laws_FnSureCurve.f
  by_cases hbig : (l.length : Int) > 1048576
  · rw [if_pos hbig]
  rw [if_neg hbig]
  obtain ⟨c, hd, hc⟩ := drawSure_ok 200 l (by omega) hw
  rw [hd]
  simp only [Option.bind_some]
  rw [impl_sure _ _ (by omega) (by omega), spec_sure _ _ (by omega) (by omega)]
  simp only [Option.bind_some]
  rw [if_neg (by simp)]
  by_cases h : sureP (ps c)
  · rw [show (!decide (sureP (ps c))) = false by simp [h]]
    show laws_FnSureCurve.j0 (199 + 1) _ _ _ = some true
    simp only [laws_FnSureCurve.j0]
    rw [if_neg (by simp)]
    have h' := h
    obtain ⟨k0, k4⟩ := h'
    have k0' := k0
    obtain ⟨k1, k2, k3⟩ := k0'
    rw [ps_length] at k2 k3
    have loop : ∀ (d i k : Nat), i + d = c.length → d + 50 < k → laws_FnSureCurve.l0 k c (i : Int) = some true := by
      intro d
      induction d with
      | zero =>
        intro i k hi hk
        obtain ⟨k, rfl⟩ : ∃ m, k = m + 1 := ⟨k - 1, by omega⟩
        simp only [laws_FnSureCurve.l0]
        rw [if_neg (by omega), if_pos (by omega), impl_sure _ _ (by simp; omega) (by simp; omega)]
        have t1 : ps (c.take 1) = (ps c).take 1 := by simp [ps, List.map_take]
        have s1 : sureP (ps (c.take 1)) := by
          rw [t1]
          refine ⟨⟨fun j hj => ?_, by simp [ps_length]; omega, by simp [ps_length]; omega⟩, fun j j1 j2 => ?_⟩
          · rw [List.length_take, ps_length] at hj
            rw [getD_take _ _ _ _ (by omega)]
            exact k1 j (by rw [ps_length]; omega)
          · rw [List.length_take, ps_length] at j2
            omega
        rw [decide_eq_true s1]
        rfl
      | succ d ih =>
        intro i k hi hk
        obtain ⟨k, rfl⟩ : ∃ m, k = m + 1 := ⟨k - 1, by omega⟩
        simp only [laws_FnSureCurve.l0]
        have f : fwdF c (i : Int) = ((fwd (ps c) i).1, (fwd (ps c) i).2, true) := by
          unfold fwdF
          rw [if_pos ⟨k0, by omega, by omega⟩, show ((i : Int)).toNat = i by omega]
        have hs : 0 ≤ (fwd (ps c) i).1 := by
          refine fwd_sure k0 (by rw [ps_length]; omega) ?_
          match i with
          | 0 =>
            obtain ⟨_, _, e⟩ := k1 0 (by rw [ps_length]; omega)
            exact e
          | i + 1 => exact k4 (i + 1) (by omega) (by rw [ps_length]; omega)
        rw [if_pos (by omega), impl_fwd _ _ _ (by omega) (by omega), f]
        simp only [Option.bind_some]
        rw [if_pos trivial, if_neg (by omega), w64 (by omega) (by omega), show (i : Int) + 1 = ((i + 1 : Nat) : Int) by omega]
        exact ih (i + 1) k (by omega) (by omega)
    exact loop c.length 0 199 (by omega) (by omega)
  · rw [show (!decide (sureP (ps c))) = true by simp [h]]
    show laws_FnSureCurve.j0 (199 + 1) _ _ _ = some true
    simp only [laws_FnSureCurve.j0]
    rw [if_pos trivial, spec_sure _ _ (by omega) (by omega)]
    simp
end Go.Proofs.YtpijjacnbpnlfaaDoor.Pure

/-
  The pure statement of FnSureCurveParts (printed Lean functions). Conditions: none beyond the statement's own.
-/
import Derived.Test.YtpijjacnbpnlfaaDoorQx6
import Derived.Test.YtpijjacnbpnlfaaDoorCurFun
import Derived.Test.YtpijjacnbpnlfaaDoorDrawCurve
namespace Go.Proofs.YtpijjacnbpnlfaaDoor.Pure
open Go.RowKit Go.Proofs.YtpijjacnbpnlfaaDoor.Q Go.Proofs.YtpijjacnbpnlfaaDoorW.PrintWords Go.Proofs.YtpijjacnbpnlfaaDoorW.PrintLast Go.Proofs.YtpijjacnbpnlfaaDoor.Rng

theorem FnSureCurveParts : laws_FnSureCurveParts.Pure := by
  intro l hm hl hw
  refine ⟨200, ?_⟩
  unfold laws_FnSureCurveParts.f
  by_cases hbig : (l.length : Int) > 1048576
  · rw [if_pos hbig]
  rw [if_neg hbig]
  obtain ⟨c, hd, hc⟩ := drawSure_ok 200 l (by omega) hw
  rw [hd]
  simp only [Option.bind_some]
  rw [impl_sure _ _ (by omega) (by omega), spec_sure _ _ (by omega) (by omega)]
  simp only [Option.bind_some]
  rw [if_neg (by simp)]
  have hout : laws_FnSureCurveParts.j0 200 c (decide (sureP (ps c))) true = some true := by
    show laws_FnSureCurveParts.j0 (199 + 1) _ _ _ = some true
    simp only [laws_FnSureCurveParts.j0]
    rw [if_pos trivial, spec_sure _ _ (by omega) (by omega)]
    simp
  by_cases h : sureP (ps c)
  · rw [if_pos (decide_eq_true h)]
    by_cases g : (c.length : Int) < 2
    · rw [decide_eq_true g]
      exact hout
    · rw [decide_eq_false g]
      show laws_FnSureCurveParts.j0 (199 + 1) _ _ _ = some true
      simp only [laws_FnSureCurveParts.j0]
      obtain ⟨⟨k1, k2, k3⟩, k4⟩ := h
      rw [ps_length] at k2 k3
      rw [if_neg (by simp), w64 (by omega) (by omega), if_pos (by omega), if_pos (by omega), show ((c.length : Int) - 1).toNat = c.length - 1 by omega]
      have t1 : ps (c.take (c.length - 1)) = (ps c).take (c.length - 1) := by simp [ps, List.map_take]
      have t2 : ps (c.drop 1) = (ps c).drop 1 := by simp [ps]
      have s1 : sureP (ps (c.take (c.length - 1))) := by
        rw [t1]
        refine ⟨⟨fun j hj => ?_, by simp [ps_length]; omega, by simp [ps_length]; omega⟩, fun j j1 j2 => ?_⟩
        · rw [List.length_take, ps_length] at hj
          rw [getD_take _ _ _ _ (by omega)]
          exact k1 j (by rw [ps_length]; omega)
        · rw [List.length_take, ps_length] at j2
          rw [getD_take _ _ _ _ (by omega), getD_take _ _ _ _ (by omega)]
          exact k4 j j1 (by rw [ps_length]; omega)
      have gd : ∀ j, ((ps c).drop 1).getD j (0, 0) = (ps c).getD (j + 1) (0, 0) := fun j => by
        simp [List.getD]
      have s2 : sureP (ps (c.drop 1)) := by
        rw [t2]
        refine ⟨⟨fun j hj => ?_, by simp [ps_length]; omega, by simp [ps_length]; omega⟩, fun j j1 j2 => ?_⟩
        · rw [List.length_drop, ps_length] at hj
          rw [gd]
          exact k1 (j + 1) (by rw [ps_length]; omega)
        · rw [List.length_drop, ps_length] at j2
          rw [gd, gd, show j - 1 + 1 = j + 1 - 1 by omega]
          exact k4 (j + 1) (by omega) (by rw [ps_length]; omega)
      rw [impl_sure _ _ (by simp; omega) (by simp; omega), decide_eq_true s1]
      simp only [Option.bind_some]
      rw [if_pos trivial, if_pos (by omega), impl_sure _ _ (by simp; omega) (by simp; omega), decide_eq_true s2]
      rfl
  · rw [if_neg (by simpa using h)]
    exact hout
end Go.Proofs.YtpijjacnbpnlfaaDoor.Pure

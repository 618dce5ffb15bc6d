/-
  The pure statement of FnCurveOfHigher (printed Lean functions). Conditions: none beyond the statement's own.
-/
import Derived.Test.YtomhnfajnbhaoaaDoorQx8
import Derived.Test.YtomhnfajnbhaoaaDoorCurOf
import Derived.Test.YtomhnfajnbhaoaaDoorDrawCur
import Derived.Test.YtomhnfajnbhaoaaDoorPow
namespace Go.Proofs.YtomhnfajnbhaoaaDoor.Pure
open Go.RowKit Go.Proofs.YtomhnfajnbhaoaaDoor.Q Go.Proofs.YtomhnfajnbhaoaaDoorW.PrintWords Go.Proofs.YtomhnfajnbhaoaaDoorW.PrintLast Go.Proofs.YtomhnfajnbhaoaaDoor.Rng

theorem FnCurveOfHigher : laws_FnCurveOfHigher.Pure := by
  intro l hm hl hw
  refine ⟨200, ?_⟩
  unfold laws_FnCurveOfHigher.f
  by_cases hbig : (l.length : Int) > 1048576
  · rw [if_pos hbig]
  rw [if_neg hbig]
  obtain ⟨r, hd⟩ := drawCur_ok 200 l (by omega) hw
  have hc := curF_len r
  rw [hd]
  simp only [Option.bind_some]
  rw [impl_cur _ (by omega)]
  simp only [Option.bind_some]
  rw [spec_cur _ (by omega)]
  simp only [Option.bind_some]
  rw [equalRanges_self _ _ (by omega) (by omega)]
  simp only [Option.bind_some]
  rw [if_pos trivial, if_neg (by simp)]
  have hout : laws_FnCurveOfHigher.j0 200 r (curF r).1 (curF r).2 (curF r).1 (curF r).2 true = some true := by
    show laws_FnCurveOfHigher.j0 (199 + 1) _ _ _ _ _ _ = some true
    simp only [laws_FnCurveOfHigher.j0]
    rw [if_pos trivial, equalRanges_self _ _ (by omega) (by omega)]
    simp
  by_cases hno : ¬ (curF r).2 = true
  · rw [if_neg hno]
    exact hout
  have hok := Classical.not_not.1 hno
  obtain ⟨h1, h2, h3, o, ho, he, hol, hoc⟩ := curF_ok hok
  rw [if_pos hok, if_pos (by omega)]
  have r0 := h1 0 (by omega)
  have e0 : rd r 0 = r.getD 0 0 := rfl
  rw [e0]
  by_cases c : r.getD 0 0 = 3000
  · rw [show (r.getD 0 0 == 3000) = true by simpa using c]
    exact hout
  rw [show (r.getD 0 0 == 3000) = false by simpa using c]
  show laws_FnCurveOfHigher.j0 (199 + 1) _ _ _ _ _ _ = some true
  simp only [laws_FnCurveOfHigher.j0]
  rw [if_neg (by simp), if_pos (by omega), e0, w64 (by omega) (by omega), impl_cur _ (by omega)]
  simp only [Option.bind_some]
  have st := (curSt_at h1 r.length o (Nat.le_refl _) ho 0 (by omega)).2
  rw [show sL o 0 = 0 from rfl, show sH o 0 = 0 from rfl, stepR_first r0.1 r0.2] at st
  have k0 := hoc 0 (by omega)
  generalize r.getD 0 0 = x at *
  have hr : okRates [x + 1] := fun j hj => by
    obtain rfl : j = 0 := by simpa using hj
    show 0 ≤ x + 1 ∧ x + 1 ≤ 3000
    omega
  have hf : curF [x + 1] = ([toS (divLo 1000000 (1000000 + 100 * (x + 1)), divHi 1000000 (1000000 + 100 * (x + 1)))], true) := by
    rw [curF_yes hr (by simp) (by simp)]
    show outOf ((stepR (x + 1) 0 0).bind fun v => some ([] ++ [v])) = _
    rw [stepR_first (by omega) (by omega)]
    rfl
  have ho0 : (ps (o.map toS)).getD 0 (0, 0) = (divLo 1000000 (1000000 + 100 * x), divHi 1000000 (1000000 + 100 * x)) := by rw [ps_toS]; exact (Option.some.inj st).symm
  rw [← Option.some.inj st] at k0
  rw [hf, he, if_pos (by rfl), if_pos (by rfl), if_pos (by simp), if_pos (by simp; omega), rd0, rd0, rd1, rd1, show ((0 : Int)).toNat = 0 from rfl, ho0]
  show (if divLo 1000000 (1000000 + 100 * (x + 1)) ≤ _ then if divHi 1000000 (1000000 + 100 * (x + 1)) ≤ _ then _ else _ else _) = _
  rw [if_pos (divLo_anti (by omega) (by omega)), if_pos (divHi_anti (by omega) (by omega))]
  exact congrArg some (decide_eq_true k0.2.2)
end Go.Proofs.YtomhnfajnbhaoaaDoor.Pure

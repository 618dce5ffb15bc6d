/-
  The pure statement of FnDivRange (printed Lean functions). Conditions: none beyond the statement's own.
-/
import Derived.Test.YtemigniflobdcaaDoorQx29
import Derived.Test.YtemigniflobdcaaDoorQx31
import Derived.Test.YtemigniflobdcaaDoorRngMul
import Derived.Test.YtemigniflobdcaaDoorRngDiv
import Derived.Test.YtemigniflobdcaaDoorDrawRng
namespace Go.Proofs.YtemigniflobdcaaDoor.Pure
open Go.RowKit Go.Proofs.YtemigniflobdcaaDoor.Q Go.Proofs.YtemigniflobdcaaDoorW.PrintWords Go.Proofs.YtemigniflobdcaaDoorW.PrintLast Go.Proofs.YtemigniflobdcaaDoor.Rng

theorem FnDivRange : laws_FnDivRange.Pure := by
  intro l hm hl hw
  refine ⟨30, ?_⟩
  unfold laws_FnDivRange.f
  by_cases hbig : (l.length : Int) > 1048576
  · rw [if_pos hbig]
  rw [if_neg hbig]
  obtain ⟨a, b, c, d, hd⟩ := drawDivRange_ok 30 l (by omega) hw
  rw [hd]
  simp only [Option.bind_some]
  rw [impl_div a b c d, spec_div 30 (by omega) a b c d]
  simp only [Option.bind_some]
  rw [if_neg (by simp), if_neg (by simp)]
  show laws_FnDivRange.j0 (29 + 1) _ _ _ _ _ _ _ _ _ _ _ = some true
  by_cases hok : (divR a b c d).2.2 = true
  · obtain ⟨h1, h2, p1, p2, h3, he⟩ := divR_ok hok
    have k1 := okR_iff.1 h1
    have k2 := okR_iff.1 h2
    have k3 := okR_iff.1 h3
    simp only [laws_FnDivRange.j0, he]
    rw [if_neg (by simp), impl_mul, impl_div, divR_one h1 p1]
    simp only [Option.bind_some, if_true]
    have e0 : 0 ≤ divLo a d := divLo_nonneg p1 (by omega)
    rw [decide_eq_true e0]
    by_cases g : (mulR (divLo a d) (divHi b c) c d).2.2 = true
    · rw [if_pos g]
      obtain ⟨_, _, _, hm⟩ := mulR_ok g
      rw [hm]
      have q1 := dv (a * 1000000) d (by omega)
      have q2 := cdv_bd (b * 1000000) c (by omega)
      have e1 : mulLo (divLo a d) (divHi b c) c d ≤ a := by
        rw [mulLo_pos e0 (by omega) (by omega) (by omega)]
        refine dv_le (by omega) ?_
        have := Int.mul_le_mul_of_nonneg_left k2.1 e0
        have q3 : d * divLo a d ≤ a * 1000000 := q1.1
        rw [Int.mul_comm d] at q3
        omega
      have e2 : b ≤ mulHi (divLo a d) (divHi b c) c d := by
        rw [mulHi_pos e0 (by omega) (by omega) (by omega)]
        refine le_cdv (by omega) ?_
        have := Int.mul_le_mul_of_nonneg_left k2.1 (show (0 : Int) ≤ divHi b c by omega)
        have q3 : b * 1000000 ≤ c * divHi b c := q2.1
        rw [Int.mul_comm c] at q3
        omega
      unfold laws_within.f
      rw [if_pos e1]
      simp [e2]
    · rw [if_neg g]
      simp
  · simp only [laws_FnDivRange.j0]
    rw [if_pos (by simpa using hok)]
    simp
end Go.Proofs.YtemigniflobdcaaDoor.Pure

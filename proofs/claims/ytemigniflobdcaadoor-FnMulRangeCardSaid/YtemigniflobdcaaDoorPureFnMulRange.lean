/-
  The pure statement of FnMulRange (printed Lean functions). Conditions: none beyond the statement's own.
-/
import Derived.Test.YtemigniflobdcaaDoorQx28
import Derived.Test.YtemigniflobdcaaDoorRngMul
import Derived.Test.YtemigniflobdcaaDoorDrawRng
namespace Go.Proofs.YtemigniflobdcaaDoor.Pure
open Go.RowKit Go.Proofs.YtemigniflobdcaaDoor.Q Go.Proofs.YtemigniflobdcaaDoorW.PrintWords Go.Proofs.YtemigniflobdcaaDoorW.PrintLast Go.Proofs.YtemigniflobdcaaDoor.Rng

theorem FnMulRange : laws_FnMulRange.Pure := by
  intro l hm hl hw
  refine ⟨30, ?_⟩
  unfold laws_FnMulRange.f
  by_cases hbig : (l.length : Int) > 1048576
  · rw [if_pos hbig]
  rw [if_neg hbig]
  obtain ⟨a, b, c, d, hd⟩ := drawMulRange_ok 30 l (by omega) hw
  rw [hd]
  simp only [Option.bind_some]
  rw [impl_mul a b c d, spec_mul 30 (by omega) a b c d]
  simp only [Option.bind_some]
  rw [if_neg (by simp), if_neg (by simp)]
  show laws_FnMulRange.j0 (29 + 1) _ _ _ _ _ _ _ _ _ _ _ = some true
  by_cases hok : (mulR a b c d).2.2 = true
  · obtain ⟨h1, h2, h3, he⟩ := mulR_ok hok
    have k1 := okR_iff.1 h1
    have k2 := okR_iff.1 h2
    have k3 := okR_iff.1 h3
    simp only [laws_FnMulRange.j0, he]
    rw [if_neg (by simp), impl_mul, mulR_comm c d a b, he]
    simp only [Option.bind_some]
    have m1 := mul_bd (x := a) (y := c) (by omega) (by omega) (by omega) (by omega)
    have m2 := mul_bd (x := a) (y := d) (by omega) (by omega) (by omega) (by omega)
    have m3 := mul_bd (x := b) (y := c) (by omega) (by omega) (by omega) (by omega)
    have m4 := mul_bd (x := b) (y := d) (by omega) (by omega) (by omega) (by omega)
    have hp := lo4_le (a * c) (a * d) (b * c) (b * d)
    have hq := le_hi4 (a * c) (a * d) (b * c) (b * d)
    have e1 := mulLo_bd a b c d
    have e2 := mulHi_bd a b c d
    rw [w64 (n := a * c) (by omega) (by omega), w64 (n := a * d) (by omega) (by omega), w64 (n := b * c) (by omega) (by omega), w64 (n := b * d) (by omega) (by omega)]
    generalize hP : a * c = P at *
    generalize hQ : a * d = Q at *
    generalize hR : b * c = R at *
    generalize hS : b * d = S at *
    generalize mulLo a b c d = L at *
    generalize mulHi a b c d = H at *
    have r0 : rd [P, Q, R, S] 0 = P := rfl
    have r1 : rd [P, Q, R, S] 1 = Q := rfl
    have r2 : rd [P, Q, R, S] 2 = R := rfl
    have r3 : rd [P, Q, R, S] 3 = S := rfl
    show laws_FnMulRange.l0 (24 + 1 + 1 + 1 + 1 + 1) _ _ _ _ _ _ _ _ _ = some true
    simp only [laws_FnMulRange.l0]
    rw [w64 (n := L * 1000000) (by omega) (by omega), w64 (n := H * 1000000) (by omega) (by omega)]
    rw [if_pos (by simp), if_pos (by decide), r0, if_neg (by omega), if_neg (by omega), show wrap64 (0 + 1) = 1 from by decide +kernel]
    rw [if_pos (by simp), if_pos (by decide), r1, if_neg (by omega), if_neg (by omega), show wrap64 (1 + 1) = 2 from by decide +kernel]
    rw [if_pos (by simp), if_pos (by decide), r2, if_neg (by omega), if_neg (by omega), show wrap64 (2 + 1) = 3 from by decide +kernel]
    rw [if_pos (by simp), if_pos (by decide), r3, if_neg (by omega), if_neg (by omega), show wrap64 (3 + 1) = 4 from by decide +kernel]
    rw [if_neg (by simp), impl_mul, mulR_one h1]
    simp
  · simp only [laws_FnMulRange.j0]
    rw [if_pos (by simpa using hok)]
    simp
end Go.Proofs.YtemigniflobdcaaDoor.Pure

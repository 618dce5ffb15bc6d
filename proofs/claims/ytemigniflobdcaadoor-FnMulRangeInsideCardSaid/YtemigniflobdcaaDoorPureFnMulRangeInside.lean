/-
  The pure statement of FnMulRangeInside (printed Lean functions). Conditions: none beyond the statement's own.
-/
import Derived.Test.YtemigniflobdcaaDoorQx29
import Derived.Test.YtemigniflobdcaaDoorQx30
import Derived.Test.YtemigniflobdcaaDoorRngMul
import Derived.Test.YtemigniflobdcaaDoorDrawRng
namespace Go.Proofs.YtemigniflobdcaaDoor.Pure
open Go.RowKit Go.Proofs.YtemigniflobdcaaDoor.Q Go.Proofs.YtemigniflobdcaaDoorW.PrintWords Go.Proofs.YtemigniflobdcaaDoorW.PrintLast Go.Proofs.YtemigniflobdcaaDoor.Rng

theorem FnMulRangeInside : laws_FnMulRangeInside.Pure := by
  intro l hm hl hw
  refine ⟨30, ?_⟩
  unfold laws_FnMulRangeInside.f
  by_cases hbig : (l.length : Int) > 1048576
  · rw [if_pos hbig]
  rw [if_neg hbig]
  obtain ⟨a, b, c, d, hd⟩ := drawMulRange_ok 30 l (by omega) hw
  rw [hd]
  simp only [Option.bind_some]
  rw [impl_mul a b c d, spec_mul 30 (by omega) a b c d]
  simp only [Option.bind_some]
  rw [if_neg (by simp), if_neg (by simp)]
  show laws_FnMulRangeInside.j0 (29 + 1) _ _ _ _ _ _ _ _ _ _ _ = some true
  by_cases hok : (mulR a b c d).2.2 = true
  · obtain ⟨h1, h2, h3, he⟩ := mulR_ok hok
    have k1 := okR_iff.1 h1
    have k2 := okR_iff.1 h2
    have k3 := okR_iff.1 h3
    simp only [laws_FnMulRangeInside.j0, he]
    rw [if_neg (by simp), impl_mul]
    have hp := lo4_le (a * c) (a * d) (b * c) (b * d)
    have hq := le_hi4 (a * c) (a * d) (b * c) (b * d)
    have e1 : mulLo a b c d ≤ mulLo a a c d := dv_mono (by omega) (le_lo4 hp.1 hp.2.1 hp.1 hp.2.1)
    have e2 : mulHi a a c d ≤ mulHi a b c d := cdv_mono (by omega) (hi4_le hq.1 hq.2.1 hq.1 hq.2.1)
    have e3 := mulLo_le_Hi a a c d
    rw [mulR_yes (okR_of (by omega) (by omega) (by omega)) h2 (okR_of e3 (by omega) (by omega))]
    simp only [Option.bind_some, if_true]
    unfold laws_within.f
    rw [if_pos e1]
    simp [e2]
  · simp only [laws_FnMulRangeInside.j0]
    rw [if_pos (by simpa using hok)]
    simp
end Go.Proofs.YtemigniflobdcaaDoor.Pure

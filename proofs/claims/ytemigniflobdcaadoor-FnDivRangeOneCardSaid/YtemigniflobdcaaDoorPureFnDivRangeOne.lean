/-
  The pure statement of FnDivRangeOne (printed Lean functions). Conditions: none beyond the statement's own.
-/
import Derived.Test.YtemigniflobdcaaDoorQx26
import Derived.Test.YtemigniflobdcaaDoorRngDiv
import Derived.Test.YtemigniflobdcaaDoorRngIn
import Derived.Test.YtemigniflobdcaaDoorDrawRng
namespace Go.Proofs.YtemigniflobdcaaDoor.Pure
open Go.RowKit Go.Proofs.YtemigniflobdcaaDoor.Q Go.Proofs.YtemigniflobdcaaDoorW.PrintWords Go.Proofs.YtemigniflobdcaaDoorW.PrintLast Go.Proofs.YtemigniflobdcaaDoor.Rng

theorem FnDivRangeOne : laws_FnDivRangeOne.Pure := by
  intro l hm hl hw
  refine ⟨30, ?_⟩
  unfold laws_FnDivRangeOne.f
  by_cases hbig : (l.length : Int) > 1048576
  · rw [if_pos hbig]
  rw [if_neg hbig]
  obtain ⟨a, b, c, d, hd⟩ := drawDivRange_ok 30 l (by omega) hw
  rw [hd]
  simp only [Option.bind_some]
  rw [impl_div a b c d, spec_div 30 (by omega) a b c d]
  simp only [Option.bind_some]
  rw [if_neg (by simp)]
  show laws_FnDivRangeOne.j0 (29 + 1) _ _ _ = some true
  simp only [laws_FnDivRangeOne.j0]
  rw [if_neg (by simp), impl_div]
  simp only [Option.bind_some]
  by_cases hok : (divR c d c d).2.2 = true
  · obtain ⟨h1, h2, p1, p2, h3, he⟩ := divR_ok hok
    have k1 := okR_iff.1 h1
    rw [if_pos hok, he]
    have e1 : divLo c d ≤ 1000000 := dv_le (by omega) (by omega)
    have e2 : 1000000 ≤ divHi d c := le_cdv (by omega) (by omega)
    rw [impl_in]
    simp [h3, e1, e2]
  · rw [if_neg hok]
end Go.Proofs.YtemigniflobdcaaDoor.Pure

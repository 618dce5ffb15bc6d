/-
  The pure statement of FnAddRangeThree (printed Lean functions). Conditions: none beyond the statement's own.
-/
import Derived.Test.YtemigniflobdcaaDoorQx16
import Derived.Test.YtemigniflobdcaaDoorRngAdd
import Derived.Test.YtemigniflobdcaaDoorDrawRng
namespace Go.Proofs.YtemigniflobdcaaDoor.Pure
open Go.RowKit Go.Proofs.YtemigniflobdcaaDoor.Q Go.Proofs.YtemigniflobdcaaDoorW.PrintWords Go.Proofs.YtemigniflobdcaaDoorW.PrintLast Go.Proofs.YtemigniflobdcaaDoor.Rng

theorem FnAddRangeThree : laws_FnAddRangeThree.Pure := by
  intro l hm hl hw
  refine ⟨30, ?_⟩
  unfold laws_FnAddRangeThree.f
  by_cases hbig : (l.length : Int) > 1048576
  · rw [if_pos hbig]
  rw [if_neg hbig]
  obtain ⟨a, b, c, d, hd⟩ := drawAddRange_ok 30 l (by omega) hw
  rw [hd]
  simp only [Option.bind_some]
  rw [impl_add a b c d, spec_add a b c d]
  simp only [Option.bind_some]
  rw [if_neg (by simp), if_neg (by simp)]
  show laws_FnAddRangeThree.j0 (29 + 1) _ _ _ _ _ _ _ _ _ _ _ = some true
  by_cases hok : (addR a b c d).2.2 = true
  · obtain ⟨h1, h2, h3, he⟩ := addR_ok hok
    have k1 := okR_iff.1 h1
    have k2 := okR_iff.1 h2
    have k3 := okR_iff.1 h3
    simp only [laws_FnAddRangeThree.j0, he]
    rw [if_neg (by simp), impl_add, impl_add c d a b, addR_comm c d a b, he]
    simp only [Option.bind_some]
    rw [impl_add]
    simp only [Option.bind_some, if_true]
    by_cases g1 : (addR (a + c) (b + d) a b).2.2 = true
    · rw [if_pos g1]
      by_cases g2 : (addR a b (a + c) (b + d)).2.2 = true
      · rw [if_pos g2, addR_comm]
        simp
      · rw [if_neg g2]
    · rw [if_neg g1]
  · simp only [laws_FnAddRangeThree.j0]
    rw [if_pos (by simpa using hok)]
    simp
end Go.Proofs.YtemigniflobdcaaDoor.Pure

/-
  The pure statement of FnAddRange (printed Lean functions). Conditions: none beyond the statement's own.
-/
import Derived.Test.YtemigniflobdcaaDoorQx17
import Derived.Test.YtemigniflobdcaaDoorRngAdd
import Derived.Test.YtemigniflobdcaaDoorRngIn
import Derived.Test.YtemigniflobdcaaDoorDrawRng
namespace Go.Proofs.YtemigniflobdcaaDoor.Pure
open Go.RowKit Go.Proofs.YtemigniflobdcaaDoor.Q Go.Proofs.YtemigniflobdcaaDoorW.PrintWords Go.Proofs.YtemigniflobdcaaDoorW.PrintLast Go.Proofs.YtemigniflobdcaaDoor.Rng

theorem FnAddRange : laws_FnAddRange.Pure := by
  intro l hm hl hw
  refine ⟨30, ?_⟩
  unfold laws_FnAddRange.f
  by_cases hbig : (l.length : Int) > 1048576
  · rw [if_pos hbig]
  rw [if_neg hbig]
  obtain ⟨a, b, c, d, hd⟩ := drawAddRange_ok 30 l (by omega) hw
  rw [hd]
  simp only [Option.bind_some]
  rw [impl_add a b c d, spec_add a b c d]
  simp only [Option.bind_some]
  rw [if_neg (by simp), if_neg (by simp)]
  show laws_FnAddRange.j0 (29 + 1) _ _ _ _ _ _ _ _ _ _ _ = some true
  by_cases hok : (addR a b c d).2.2 = true
  · obtain ⟨h1, h2, h3, he⟩ := addR_ok hok
    have k1 := okR_iff.1 h1
    have k2 := okR_iff.1 h2
    have k3 := okR_iff.1 h3
    simp only [laws_FnAddRange.j0, he]
    rw [if_neg (by simp), impl_add, addR_comm c d a b, he]
    simp only [Option.bind_some, if_true]
    rw [if_pos (by simp), w64 (n := a + c) (by omega) (by omega), w64 (n := b + d) (by omega) (by omega), impl_in]
    simp only [Option.bind_some]
    rw [if_pos (by simp [h3]; omega), impl_in]
    simp only [Option.bind_some]
    rw [if_pos (by simp [h3]; omega), w64 (n := b + d - (a + c)) (by omega) (by omega), w64 (n := b - a) (by omega) (by omega), w64 (n := b - a + d) (by omega) (by omega), w64 (by omega) (by omega)]
    simp
    omega
  · simp only [laws_FnAddRange.j0]
    rw [if_pos (by simpa using hok)]
    simp
end Go.Proofs.YtemigniflobdcaaDoor.Pure

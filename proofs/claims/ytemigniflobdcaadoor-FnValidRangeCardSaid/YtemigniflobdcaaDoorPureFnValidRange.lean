/-
  The pure statement of FnValidRange (printed Lean functions). Conditions: none beyond the statement's own.
-/
import Derived.Test.YtemigniflobdcaaDoorQx9
import Derived.Test.YtemigniflobdcaaDoorRngIn
import Derived.Test.YtemigniflobdcaaDoorDrawRng
namespace Go.Proofs.YtemigniflobdcaaDoor.Pure
open Go.RowKit Go.Proofs.YtemigniflobdcaaDoor.Q Go.Proofs.YtemigniflobdcaaDoorW.PrintWords Go.Proofs.YtemigniflobdcaaDoorW.PrintLast Go.Proofs.YtemigniflobdcaaDoor.Rng

theorem FnValidRange : laws_FnValidRange.Pure := by
  intro l hm hl hw
  refine ⟨30, ?_⟩
  unfold laws_FnValidRange.f
  by_cases hbig : (l.length : Int) > 1048576
  · rw [if_pos hbig]
  rw [if_neg hbig]
  obtain ⟨a, b, hd⟩ := drawValidRange_ok 30 l (by omega) hw
  rw [hd]
  simp only [Option.bind_some]
  rw [impl_valid, spec_Valid]
  simp only [Option.bind_some]
  rw [if_pos (by simp), impl_in, impl_in]
  simp only [Option.bind_some]
  by_cases h : okR a b = true
  · have := okR_iff.1 h
    simp [h, this.1]
  · simp [h]
end Go.Proofs.YtemigniflobdcaaDoor.Pure

/-
  The pure statement of FnInRange (printed Lean functions). Conditions: none beyond the statement's own.
-/
import Derived.Test.YtemigniflobdcaaDoorQx11
import Derived.Test.YtemigniflobdcaaDoorRngIn
import Derived.Test.YtemigniflobdcaaDoorDrawRng
namespace Go.Proofs.YtemigniflobdcaaDoor.Pure
open Go.RowKit Go.Proofs.YtemigniflobdcaaDoor.Q Go.Proofs.YtemigniflobdcaaDoorW.PrintWords Go.Proofs.YtemigniflobdcaaDoorW.PrintLast Go.Proofs.YtemigniflobdcaaDoor.Rng

theorem FnInRange : laws_FnInRange.Pure := by
  intro l hm hl hw
  refine ⟨30, ?_⟩
  unfold laws_FnInRange.f
  by_cases hbig : (l.length : Int) > 1048576
  · rw [if_pos hbig]
  rw [if_neg hbig]
  obtain ⟨a, b, n, hd⟩ := drawInRange_ok 30 l (by omega) hw
  rw [hd]
  simp only [Option.bind_some]
  rw [impl_in, spec_in]
  simp only [Option.bind_some]
  rw [if_pos (by simp), impl_valid]
  simp only [Option.bind_some]
  by_cases h : okR a b = true
  · rw [if_pos h]
    by_cases c : a ≤ n
    · rw [if_pos c]
      simp [h, c]
    · rw [if_neg c]
      simp [c]
  · rw [if_neg h]
    simp [h]
end Go.Proofs.YtemigniflobdcaaDoor.Pure

/-
  The pure statement of FnExactSureCurve (printed Lean functions). Conditions: none beyond the statement's own.
-/
import Derived.Test.YtiipannebebbeaaDoorQx3
import Derived.Test.YtiipannebebbeaaDoorCurFun
import Derived.Test.YtiipannebebbeaaDoorToS
namespace Go.Proofs.YtiipannebebbeaaDoor.Pure
open Go.RowKit Go.Proofs.YtiipannebebbeaaDoor.Q Go.Proofs.YtiipannebebbeaaDoorW.PrintWords Go.Proofs.YtiipannebebbeaaDoorW.PrintLast Go.Proofs.YtiipannebebbeaaDoor.Rng

theorem FnExactSureCurve (l : List SA) (hl : l.length ≤ 9223372036854775807) : ∃ k, laws_FnExactSureCurve.f k l = some true := by
  refine ⟨2 * l.length + 100, ?_⟩
  unfold laws_FnExactSureCurve.f
  rw [szRangeS_is l hl]
  simp only [Option.bind_some]
  by_cases h : ¬ l.length ≤ 1048576
  · rw [if_neg h, if_pos (by omega)]
  replace h := Classical.not_not.1 h
  rw [if_pos h, if_neg (by omega), toRangeS_is _ l h (by omega)]
  have hc : (l.map cv).length = l.length := List.length_map ..
  simp only [Option.bind_some]
  rw [spec_sure _ _ (by omega) (by omega)]
  simp only [Option.bind_some]
  rw [impl_sure _ _ (by omega) (by omega)]
  simp only [Option.bind_some]
  rw [if_neg (by simp), eqRangeS_self _ _ (by omega) (by omega)]
  simp only [Option.bind_some]
  rw [if_pos trivial]
end Go.Proofs.YtiipannebebbeaaDoor.Pure

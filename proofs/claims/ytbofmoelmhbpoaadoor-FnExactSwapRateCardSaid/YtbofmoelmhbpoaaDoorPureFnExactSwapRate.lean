/-
  The pure statement of FnExactSwapRate (printed Lean functions). Conditions: none beyond the statement's own.
-/
import Derived.Test.YtbofmoelmhbpoaaDoorQx14
import Derived.Test.YtbofmoelmhbpoaaDoorCurSwap
import Derived.Test.YtbofmoelmhbpoaaDoorToS
namespace Go.Proofs.YtbofmoelmhbpoaaDoor.Pure
open Go.RowKit Go.Proofs.YtbofmoelmhbpoaaDoor.Q Go.Proofs.YtbofmoelmhbpoaaDoorW.PrintWords Go.Proofs.YtbofmoelmhbpoaaDoorW.PrintLast Go.Proofs.YtbofmoelmhbpoaaDoor.Rng

theorem FnExactSwapRate (l : List SA) (hl : l.length ≤ 9223372036854775807) (m : Int) (_ : (Lit.int .i64 m).wf = true) : ∃ k, laws_FnExactSwapRate.f k l m = some true := by
  refine ⟨2 * l.length + 100, ?_⟩
  unfold laws_FnExactSwapRate.f
  rw [szRangeS_is l hl]
  simp only [Option.bind_some]
  by_cases h : ¬ l.length ≤ 1048576
  · rw [if_neg h, if_pos (by omega)]
  replace h := Classical.not_not.1 h
  rw [if_pos h, if_neg (by omega), toRangeS_is _ l h (by omega)]
  have hc : (l.map cv).length = l.length := List.length_map ..
  simp only [Option.bind_some]
  rw [spec_swap _ _ _ (by omega) (by omega)]
  simp only [Option.bind_some]
  rw [impl_swap _ _ _ (by omega) (by omega)]
  simp only [Option.bind_some]
  rw [eqRange_self]
  simp only [Option.bind_some]
  rw [if_pos trivial]
  show laws_FnExactSwapRate.j0 (2 * l.length + 99 + 1) _ _ _ = some true
  simp only [laws_FnExactSwapRate.j0]
  rw [if_neg (by simp), toRangeS_is _ l h (by omega)]
  simp only [Option.bind_some]
  rw [eqRangeS_self _ _ (by omega) (by omega)]
  simp only [Option.bind_some]
  rw [if_pos trivial]
end Go.Proofs.YtbofmoelmhbpoaaDoor.Pure

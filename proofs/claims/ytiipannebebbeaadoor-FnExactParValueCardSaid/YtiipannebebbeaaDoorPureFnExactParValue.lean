/-
  The pure statement of FnExactParValue (printed Lean functions). Conditions: none beyond the statement's own.
-/
import Derived.Test.YtiipannebebbeaaDoorQx6
import Derived.Test.YtiipannebebbeaaDoorCurPar
import Derived.Test.YtiipannebebbeaaDoorToS
namespace Go.Proofs.YtiipannebebbeaaDoor.Pure
open Go.RowKit Go.Proofs.YtiipannebebbeaaDoor.Q Go.Proofs.YtiipannebebbeaaDoorW.PrintWords Go.Proofs.YtiipannebebbeaaDoorW.PrintLast Go.Proofs.YtiipannebebbeaaDoor.Rng

theorem FnExactParValue (l : List SA) (hl : l.length ≤ 9223372036854775807) (r : Int) (_ : (Lit.int .i64 r).wf = true) (m : Int) (_ : (Lit.int .i64 m).wf = true) : ∃ k, laws_FnExactParValue.f k l r m = some true := by
  refine ⟨2 * l.length + 100, ?_⟩
  unfold laws_FnExactParValue.f
  rw [szRangeS_is l hl]
  simp only [Option.bind_some]
  by_cases h : ¬ l.length ≤ 1048576
  · rw [if_neg h, if_pos (by omega)]
  replace h := Classical.not_not.1 h
  rw [if_pos h, if_neg (by omega), toRangeS_is _ l h (by omega)]
  have hc : (l.map cv).length = l.length := List.length_map ..
  simp only [Option.bind_some]
  rw [spec_par _ _ _ _ (by omega) (by omega)]
  simp only [Option.bind_some]
  rw [impl_par _ _ _ _ (by omega) (by omega)]
  simp only [Option.bind_some]
  rw [eqRange_self]
  simp only [Option.bind_some]
  rw [if_pos trivial]
  show laws_FnExactParValue.j0 (2 * l.length + 99 + 1) _ _ _ = some true
  simp only [laws_FnExactParValue.j0]
  rw [if_neg (by simp), toRangeS_is _ l h (by omega)]
  simp only [Option.bind_some]
  rw [eqRangeS_self _ _ (by omega) (by omega)]
  simp only [Option.bind_some]
  rw [if_pos trivial]
end Go.Proofs.YtiipannebebbeaaDoor.Pure

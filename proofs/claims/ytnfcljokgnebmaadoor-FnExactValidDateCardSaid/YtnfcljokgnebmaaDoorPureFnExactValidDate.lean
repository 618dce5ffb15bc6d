/-
  The pure statement of FnExactValidDate (printed Lean functions). Conditions: none beyond the statement's own.
-/
import Derived.Test.YtnfcljokgnebmaaDoorQx4
import Derived.Test.YtnfcljokgnebmaaDoorQx5
import Derived.Test.YtnfcljokgnebmaaDoorQx6
import Derived.Test.YtnfcljokgnebmaaDoorDaysLaws
namespace Go.Proofs.YtnfcljokgnebmaaDoor.Pure
open Go.RowKit Go.Proofs.YtnfcljokgnebmaaDoor.Q Go.Proofs.YtnfcljokgnebmaaDoorW.PrintWords Go.Proofs.YtnfcljokgnebmaaDoorW.PrintLast Go.Proofs.YtnfcljokgnebmaaDoor.Biz

theorem FnExactValidDate (y m d : Int) (_ : (Lit.int .i64 y).wf = true) (_ : (Lit.int .i64 m).wf = true) (_ : (Lit.int .i64 d).wf = true) : laws_FnExactValidDate.f y m d = some true := by
  unfold laws_FnExactValidDate.f laws_toDate.f
  simp only [Option.bind_some]
  have hs : spec_ValidDate.f y m d = some (decide (1 ≤ d) && decide (d ≤ daysP y m)) := by
    unfold spec_ValidDate.f spec_validDate.f daysP
    rw [inRange_eq]
    simp only [Option.bind_some]
    by_cases hy : 1990 ≤ y ∧ y ≤ 2089
    · rw [if_pos (by simp; omega), inRange_eq]
      simp only [Option.bind_some]
      by_cases hm : 1 ≤ m ∧ m ≤ 12
      · rw [if_pos (by simp; omega), spec_dim y m hm.1 hm.2, if_pos ⟨hy, hm⟩]
        simp only [Option.bind_some]
        rw [inRange_eq]
        rfl
      · rw [if_neg (by simp; omega), if_neg (fun e => hm e.2)]
        simp
        omega
    · rw [if_neg (by simp; omega), if_neg (fun e => hy e.1)]
      simp
      omega
  have hi : impl_ValidDate.f y m d = some (decide (1 ≤ d) && decide (d ≤ daysP y m)) := by
    unfold impl_ValidDate.f
    rw [impl_daysP]
    simp only [Option.bind_some]
    rw [within_eq]
    rfl
  rw [hs]
  simp only [Option.bind_some]
  rw [hi]
  simp
end Go.Proofs.YtnfcljokgnebmaaDoor.Pure

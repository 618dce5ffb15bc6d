/-
  The pure statement of FnExactDateOf (printed Lean functions). Conditions: none beyond the statement's own.
-/
import Derived.Test.YtnfcljokgnebmaaDoorQx1
import Derived.Test.YtnfcljokgnebmaaDoorQx11
import Derived.Test.YtnfcljokgnebmaaDoorQx12
import Derived.Test.YtnfcljokgnebmaaDoorQx13
import Derived.Test.YtnfcljokgnebmaaDoorQx9
import Derived.Test.YtnfcljokgnebmaaDoorDate
namespace Go.Proofs.YtnfcljokgnebmaaDoor.Pure
open Go.RowKit Go.Proofs.YtnfcljokgnebmaaDoor.Q Go.Proofs.YtnfcljokgnebmaaDoorW.PrintWords Go.Proofs.YtnfcljokgnebmaaDoorW.PrintLast Go.Proofs.YtnfcljokgnebmaaDoor.Biz

theorem FnExactDateOf : laws_FnExactDateOf.Pure := by
  intro n _
  refine ⟨200, ?_⟩
  unfold laws_FnExactDateOf.f
  have hs : spec_DateOf.f 200 n = some (if 0 ≤ n ∧ n ≤ 36524 then ((dateP n).1, (dateP n).2.1, (dateP n).2.2, true) else (0, 0, 0, false)) := by
    unfold spec_DateOf.f
    rw [inRange_eq]
    simp only [Option.bind_some]
    by_cases h : 0 ≤ n ∧ n ≤ 36524
    · rw [if_pos (by simp; omega), if_pos h, spec_dateP n 200 h.1 h.2 (by omega)]
      rfl
    · rw [if_neg (by simp; omega), if_neg h]
  have hi : impl_DateOf.f 200 n = some (if 0 ≤ n ∧ n ≤ 36524 then ((dateP n).1, (dateP n).2.1, (dateP n).2.2, true) else (0, 0, 0, false)) := by
    unfold impl_DateOf.f impl_dayValid.f impl_within.f
    by_cases h : 0 ≤ n ∧ n ≤ 36524
    · rw [if_pos (c := n ≥ 0) h.1, if_pos (c := 0 ≤ n ∧ n ≤ 36524) h]
      simp only [Option.bind_some]
      rw [if_pos (by simp; omega), impl_dateP n 200 h.1 h.2 (by omega)]
      rfl
    · rw [if_neg (c := 0 ≤ n ∧ n ≤ 36524) h]
      by_cases h0 : n ≥ 0
      · rw [if_pos h0]
        simp only [Option.bind_some]
        rw [if_neg (by simp; omega)]
      · rw [if_neg h0]
        simp
  rw [hs]
  simp only [Option.bind_some]
  rw [hi]
  simp only [Option.bind_some]
  unfold laws_eqDate.f
  simp
end Go.Proofs.YtnfcljokgnebmaaDoor.Pure

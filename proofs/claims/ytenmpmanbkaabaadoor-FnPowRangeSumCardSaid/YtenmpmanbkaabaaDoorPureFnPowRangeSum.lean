/-
  The pure statement of FnPowRangeSum (printed Lean functions). Conditions: none beyond the statement's own.
-/
import Derived.Test.YtenmpmanbkaabaaDoorQx18
import Derived.Test.YtenmpmanbkaabaaDoorPowLaws
import Derived.Test.YtenmpmanbkaabaaDoorDrawPow
namespace Go.Proofs.YtenmpmanbkaabaaDoor.Pure
open Go.RowKit Go.Proofs.YtenmpmanbkaabaaDoor.Q Go.Proofs.YtenmpmanbkaabaaDoorW.PrintWords Go.Proofs.YtenmpmanbkaabaaDoorW.PrintLast Go.Proofs.YtenmpmanbkaabaaDoor.Rng

theorem FnPowRangeSum : laws_FnPowRangeSum.Pure := by
  intro l hm hl hw
  refine ⟨100, ?_⟩
  unfold laws_FnPowRangeSum.f
  by_cases hbig : (l.length : Int) > 1048576
  · rw [if_pos hbig]
  rw [if_neg hbig]
  obtain ⟨a, b, n, hd⟩ := drawPow_ok 100 l (by omega) hw
  rw [hd]
  simp only [Option.bind_some]
  rw [impl_pow 100 (by omega), spec_pow 100 (by omega)]
  simp only [Option.bind_some]
  rw [if_neg (by simp), if_neg (by simp)]
  have hout : laws_FnPowRangeSum.j0 100 n (powF a b n).2.2 (powF a b n).2.2 true a b (powF a b n).1 (powF a b n).2.1 (powF a b n).1 (powF a b n).2.1 = some true := by
    show laws_FnPowRangeSum.j0 (99 + 1) _ _ _ _ _ _ _ _ _ _ = some true
    simp only [laws_FnPowRangeSum.j0]
    rw [if_pos trivial]
    simp
  by_cases hok : ¬ (powF a b n).2.2 = true
  · rw [if_neg hok]
    exact hout
  replace hok := Classical.not_not.1 hok
  rw [if_pos hok]
  obtain ⟨h1, h2, h3, h4, he, ht⟩ := powF_ok hok
  by_cases c : n < 2
  · rw [decide_eq_true c]
    exact hout
  rw [decide_eq_false c]
  show laws_FnPowRangeSum.j0 (99 + 1) _ _ _ _ _ _ _ _ _ _ = some true
  simp only [laws_FnPowRangeSum.j0]
  rw [if_neg (by simp), w64 (by omega) (by omega), impl_pow 99 (by omega), impl_pow 99 (by omega)]
  simp only [Option.bind_some]
  rw [impl_mul]
  simp only [Option.bind_some]
  rw [powF_yes (n := n - 2) h1 h2 (by omega) (by omega), powF_yes (n := 2) h1 h2 (by omega) (by omega), he, show (2 : Int).toNat = 2 from rfl]
  by_cases g1 : (powR a b (n - 2).toNat).2.2 = true
  · rw [if_pos g1]
    by_cases g2 : (powR a b 2).2.2 = true
    · rw [if_pos g2]
      by_cases g3 : (mulR (powR a b (n - 2).toNat).1 (powR a b (n - 2).toNat).2.1 (powR a b 2).1 (powR a b 2).2.1).2.2 = true
      · rw [if_pos g3]
        have e : n.toNat = (n - 2).toNat + 2 := by omega
        rw [e] at ht ⊢
        obtain ⟨r1, r2⟩ := powR_sum h1 h2 ht g2 g3
        rw [if_pos r1]
        exact congrArg some (decide_eq_true r2)
      · rw [if_neg g3]
    · rw [if_neg g2]
  · rw [if_neg g1]
end Go.Proofs.YtenmpmanbkaabaaDoor.Pure

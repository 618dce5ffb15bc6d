/-
  The pure statement of FnPowRange (printed Lean functions). Conditions: none beyond the statement's own.
-/
import Derived.Test.YtenmpmanbkaabaaDoorQx17
import Derived.Test.YtenmpmanbkaabaaDoorPowLaws
import Derived.Test.YtenmpmanbkaabaaDoorDrawPow
namespace Go.Proofs.YtenmpmanbkaabaaDoor.Pure
open Go.RowKit Go.Proofs.YtenmpmanbkaabaaDoor.Q Go.Proofs.YtenmpmanbkaabaaDoorW.PrintWords Go.Proofs.YtenmpmanbkaabaaDoorW.PrintLast Go.Proofs.YtenmpmanbkaabaaDoor.Rng

theorem FnPowRange : laws_FnPowRange.Pure := by
  intro l hm hl hw
  refine ⟨100, ?_⟩
  unfold laws_FnPowRange.f
  by_cases hbig : (l.length : Int) > 1048576
  · rw [if_pos hbig]
  rw [if_neg hbig]
  obtain ⟨a, b, n, hd⟩ := drawPow_ok 100 l (by omega) hw
  rw [hd]
  simp only [Option.bind_some]
  rw [impl_pow 100 (by omega), spec_pow 100 (by omega)]
  simp only [Option.bind_some]
  rw [if_neg (by simp), if_neg (by simp)]
  have hout : laws_FnPowRange.j0 100 n (powF a b n).2.2 (powF a b n).2.2 true a b (powF a b n).1 (powF a b n).2.1 (powF a b n).1 (powF a b n).2.1 = some true := by
    show laws_FnPowRange.j0 (99 + 1) _ _ _ _ _ _ _ _ _ _ = some true
    simp only [laws_FnPowRange.j0]
    rw [if_pos trivial]
    simp
  by_cases hok : ¬ (powF a b n).2.2 = true
  · rw [if_neg hok]
    exact hout
  replace hok := Classical.not_not.1 hok
  rw [if_pos hok]
  obtain ⟨h1, h2, h3, h4, he, ht⟩ := powF_ok hok
  by_cases c : n = 40
  · rw [show (n == 40) = true by simpa using c]
    exact hout
  rw [show (n == 40) = false by simpa using c]
  show laws_FnPowRange.j0 (99 + 1) _ _ _ _ _ _ _ _ _ _ = some true
  simp only [laws_FnPowRange.j0]
  rw [if_neg (by simp), impl_mul, impl_pow 99 (by omega), impl_pow 99 (by omega), w64 (by omega) (by omega)]
  simp only [Option.bind_some]
  rw [powF_yes (n := 0) h1 h2 (by omega) (by omega), powF_yes (n := n + 1) h1 h2 (by omega) (by omega), show (n + 1).toNat = n.toNat + 1 by omega, powR_succ a b n.toNat ht, he]
  show (if _ then if _ then if (powR a b 0).2.2 = true then some ((powR a b 0).1 == 1000000 && (powR a b 0).2.1 == 1000000) else _ else _ else _) = _
  rw [powR_zero]
  simp
end Go.Proofs.YtenmpmanbkaabaaDoor.Pure

/-
  The pure statement of FnBusinessWeek (printed Lean functions). Conditions: none beyond the statement's own.
-/
import Derived.Test.YtnfcljokgnebmaaQx18
import Derived.Test.YtnfcljokgnebmaaSpecBiz
import Derived.Test.YtnfcljokgnebmaaBizLaws
import Derived.Test.YtnfcljokgnebmaaDrawBetween
import Derived.Test.YtnfcljokgnebmaaExt
namespace Go.Proofs.Ytnfcljokgnebmaa.Pure
open Go.RowKit Go.Proofs.Ytnfcljokgnebmaa.Q Go.Proofs.YtnfcljokgnebmaaW.PrintWords Go.Proofs.YtnfcljokgnebmaaW.PrintLast Go.Proofs.Ytnfcljokgnebmaa.Biz

theorem FnBusinessWeek : laws_FnBusinessWeek.Pure := by
  intro l hm hl hw
  refine ⟨50000, ?_⟩
  unfold laws_FnBusinessWeek.f
  by_cases hbig : (l.length : Int) > 1048576
  · rw [if_pos hbig]
  rw [if_neg hbig]
  obtain ⟨h, a, b, hd, hlen, a0, a1, b0, b1⟩ := drawBetween_ok 50000 l (by omega) hw
  rw [hd]
  simp only [Option.bind_some]
  rw [show ∀ a b, impl_BusinessBetween.f h a b = some (between h a b) from fun _ _ => rfl, between_eq h a b (by omega) 50000 (by omega)]
  simp only [Option.bind_some, if_true]
  have hout : laws_FnBusinessWeek.j0 50000 h a b (between h a b) true = some true := by
    show laws_FnBusinessWeek.j0 (49999 + 1) h a b (between h a b) true = some true
    simp only [laws_FnBusinessWeek.j0]
    rw [if_pos trivial, between_eq h a b (by omega) 49999 (by omega)]
    simp
  by_cases c : between h a b < 0
  · rw [if_pos c]
    exact hout
  rw [if_neg c, w64 (by omega) (by omega)]
  by_cases c7 : a + 7 > 36524
  · rw [decide_eq_true c7]
    exact hout
  rw [decide_eq_false c7]
  obtain ⟨H, h0, hab, hb, hs, he⟩ := between_nonneg (h := h) (a := a) (b := b) (by omega)
  show laws_FnBusinessWeek.j0 (49999 + 1) h a b (between h a b) false = some true
  simp only [laws_FnBusinessWeek.j0]
  rw [if_neg (by simp), w64 (by omega) (by omega)]
  rw [show ∀ a b, impl_BusinessBetween.f [] a b = some (between [] a b) from fun _ _ => rfl, show ∀ a b, impl_BusinessBetween.f [] a b = some (between [] a b) from fun _ _ => rfl]
  simp only [Option.bind_some]
  rw [between_eq_cnt HolOk.nil h0 (by omega) (by omega) (by omega), show (a + 7 - a).toNat = 7 by omega, week, if_pos rfl, between_eq_cnt HolOk.nil h0 hab hb hs, he]
  have := cnt_le h (b - a).toNat a
  simp [this]
end Go.Proofs.Ytnfcljokgnebmaa.Pure

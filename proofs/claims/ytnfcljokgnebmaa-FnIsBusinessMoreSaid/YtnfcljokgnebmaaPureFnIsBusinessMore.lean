/-
  The pure statement of FnIsBusinessMore (printed Lean functions). Conditions: none beyond the statement's own.
-/
import Derived.Test.YtnfcljokgnebmaaQx14
import Derived.Test.YtnfcljokgnebmaaSpecBiz
import Derived.Test.YtnfcljokgnebmaaBizLaws
import Derived.Test.YtnfcljokgnebmaaDrawBiz
import Derived.Test.YtnfcljokgnebmaaExt
namespace Go.Proofs.Ytnfcljokgnebmaa.Pure
open Go.RowKit Go.Proofs.Ytnfcljokgnebmaa.Q Go.Proofs.YtnfcljokgnebmaaW.PrintWords Go.Proofs.YtnfcljokgnebmaaW.PrintLast Go.Proofs.Ytnfcljokgnebmaa.Biz

theorem FnIsBusinessMore : laws_FnIsBusinessMore.Pure := by
  intro l hm hl hw
  refine ⟨200, ?_⟩
  unfold laws_FnIsBusinessMore.f
  by_cases hbig : (l.length : Int) > 1048576
  · rw [if_pos hbig]
  rw [if_neg hbig]
  obtain ⟨h, n, hd, hlen, n0, n1⟩ := drawIsBusiness_ok 200 l (by omega) hw
  rw [hd]
  simp only [Option.bind_some]
  rw [show impl_IsBusiness.f h n = some (isB h n) from rfl, isBusiness_eq h n (by omega) 200 (by omega)]
  simp only [Option.bind_some]
  rw [if_neg (by simp)]
  have hout : laws_FnIsBusinessMore.j0 200 h n (isB h n) true = some true := by
    show laws_FnIsBusinessMore.j0 (199 + 1) h n (isB h n) true = some true
    simp only [laws_FnIsBusinessMore.j0]
    rw [if_pos trivial, isBusiness_eq h n (by omega) 199 (by omega)]
    simp
  by_cases hb : isB h n = true
  · rw [if_pos hb]
    by_cases hz : (h.length : Int) = 0
    · rw [show ((h.length : Int) == 0) = true by simpa using hz]
      exact hout
    · rw [show ((h.length : Int) == 0) = false by simpa using hz]
      show laws_FnIsBusinessMore.j0 (199 + 1) h n (isB h n) false = some true
      simp only [laws_FnIsBusinessMore.j0]
      rw [if_neg (by simp), if_pos (by omega)]
      obtain ⟨x, t, rfl⟩ : ∃ x t, h = x :: t := by
        cases h with
        | nil => simp at hz
        | cons x t => exact ⟨x, t, rfl⟩
      have hb2 : HolOk (x :: t) ∧ dayV n = true ∧ openB (x :: t) n = true := by
        have := hb
        unfold isB at this
        simp only [Bool.and_eq_true] at this
        exact ⟨holOk_iff.1 this.1, this.2.1, this.2.2⟩
      have ht : openB t n = true := by
        have := hb2.2.2
        simp only [openB, List.contains_cons, Bool.not_or, Bool.and_eq_true] at this ⊢
        exact ⟨this.1, this.2.2⟩
      have e1 : isB t n = true := by
        unfold isB
        rw [holOk_yes hb2.1.tail, hb2.2.1, ht]
        rfl
      have e2 : isB [n] n = false := by
        unfold isB
        have : openB [n] n = false := by simp [openB]
        rw [this]
        simp
      rw [show (x :: t).drop 1 = t from rfl, show impl_IsBusiness.f t n = some (isB t n) from rfl, e1]
      simp only [Option.bind_some, if_true]
      rw [show impl_IsBusiness.f [n] n = some (isB [n] n) from rfl, e2]
      rfl
  · rw [if_neg hb]
    exact hout
end Go.Proofs.Ytnfcljokgnebmaa.Pure

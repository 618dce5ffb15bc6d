/-
  The pure statement of FnAdjustDayNear (printed Lean functions). Conditions: none beyond the statement's own.
-/
import Derived.Test.YtnfcljokgnebmaaDoorQx18
import Derived.Test.YtnfcljokgnebmaaDoorAdjLaws
import Derived.Test.YtnfcljokgnebmaaDoorDrawAdj
namespace Go.Proofs.YtnfcljokgnebmaaDoor.Pure
open Go.RowKit Go.Proofs.YtnfcljokgnebmaaDoor.Q Go.Proofs.YtnfcljokgnebmaaDoorW.PrintWords Go.Proofs.YtnfcljokgnebmaaDoorW.PrintLast Go.Proofs.YtnfcljokgnebmaaDoor.Biz

theorem FnAdjustDayNear : laws_FnAdjustDayNear.Pure := by
  intro l hm hl hw
  refine ⟨50000, ?_⟩
  unfold laws_FnAdjustDayNear.f
  by_cases hbig : (l.length : Int) > 1048576
  · rw [if_pos hbig]
  rw [if_neg hbig]
  obtain ⟨h, n, rule, hd, hlen, n0, n1, m0, m1⟩ := drawAdj_ok 50000 l (by omega) hw
  rw [hd]
  simp only [Option.bind_some]
  rw [show impl_AdjustDay.f h n rule = some (adjustP h n rule) from rfl, specAdjust_eq h n rule (by omega) 50000 (by omega)]
  simp only [Option.bind_some, if_true]
  have hout : laws_FnAdjustDayNear.j0 50000 h n rule (adjustP h n rule) true = some true := by
    show laws_FnAdjustDayNear.j0 (49999 + 1) h n rule (adjustP h n rule) true = some true
    simp only [laws_FnAdjustDayNear.j0]
    rw [if_pos trivial, specAdjust_eq h n rule (by omega) 49999 (by omega)]
    simp
  by_cases c : adjustP h n rule < 0
  · rw [if_pos c]
    exact hout
  rw [if_neg c]
  obtain ⟨H, d0, d1⟩ := adjustP_yes (h := h) (n := n) (rule := rule) (by omega)
  by_cases r1 : rule = 1
  · subst r1
    rw [if_pos rfl]
    have e : adjustP h n 1 = up h n := by rw [adjustP_of H d0 d1]; rfl
    rw [e] at c ⊢
    have un := up_near H.1 n (by omega)
    have uc := up_cnt h n (by omega)
    have ug : n ≤ up h n ∧ up h n ≤ 36524 := by
      rcases up_bd h _ n rfl with ⟨e, _⟩ | ⟨h1, h2, _⟩
      · omega
      · exact ⟨h1, h2⟩
    show laws_FnAdjustDayNear.j0 (49999 + 1) h n 1 (up h n) false = some true
    simp only [laws_FnAdjustDayNear.j0]
    rw [if_neg (by simp), if_pos trivial, if_pos (show up h n ≥ n from ug.1), show impl_BusinessBetween.f h n (up h n) = some (between h n (up h n)) from rfl]
    simp only [Option.bind_some]
    rw [between_eq_cnt H d0 ug.1 ug.2 (by omega), uc]
    rfl
  rw [if_neg r1]
  by_cases r2 : rule = 2
  · subst r2
    have e : adjustP h n 2 = dn h n := by rw [adjustP_of H d0 d1]; rfl
    rw [e] at c ⊢
    have un := dn_near H.1 n (by omega)
    obtain ⟨ug, u0, uo, ua⟩ : dn h n ≤ n ∧ 0 ≤ dn h n ∧ openB h (dn h n) = true ∧ ∀ m, m ≤ n → dn h n < m → openB h m = false := by
      rcases dn_bd h _ n rfl with ⟨e, _⟩ | h1
      · omega
      · exact h1
    show laws_FnAdjustDayNear.j0 (49999 + 1) h n 2 (dn h n) false = some true
    simp only [laws_FnAdjustDayNear.j0]
    rw [if_neg (by simp), if_neg (by omega), if_pos ug, show impl_BusinessBetween.f h (dn h n) n = some (between h (dn h n) n) from rfl]
    simp only [Option.bind_some]
    have hc : cnt h (n - dn h n).toNat (dn h n) ≤ 1 := by
      by_cases z : n = dn h n
      · rw [show (n - dn h n).toNat = 0 by omega]
        simp [cnt]
      · obtain ⟨j, hj⟩ : ∃ j, (n - dn h n).toNat = j + 1 := ⟨(n - dn h n).toNat - 1, by omega⟩
        rw [hj]
        simp only [cnt]
        rw [cnt_zero h j (dn h n + 1) (fun m a b => ua m (by omega) (by omega))]
        split <;> omega
    rw [between_eq_cnt H u0 ug d1 (by omega), if_pos hc, show impl_IsBusiness.f h n = some (isB h n) from rfl, isB_of H d0 d1]
    simp only [Option.bind_some]
    by_cases z : n = dn h n
    · rw [← z] at uo
      rw [uo, ← z]
      simp
    · have : openB h n = false := ua n (Int.le_refl _) (by omega)
      rw [this]
      have : (dn h n == n) = false := by
        rw [beq_eq_false_iff_ne]
        omega
      rw [this]
      rfl
  · rw [show (rule != 2) = true by simpa using r2]
    exact hout
end Go.Proofs.YtnfcljokgnebmaaDoor.Pure

/-
  The pure statement of FnAddBusiness (printed Lean functions). Conditions: none beyond the statement's own.
-/
import Derived.Test.YtnfcljokgnebmaaDoorQx22
import Derived.Test.YtnfcljokgnebmaaDoorAdjLaws
import Derived.Test.YtnfcljokgnebmaaDoorDrawAdd
namespace Go.Proofs.YtnfcljokgnebmaaDoor.Pure
open Go.RowKit Go.Proofs.YtnfcljokgnebmaaDoor.Q Go.Proofs.YtnfcljokgnebmaaDoorW.PrintWords Go.Proofs.YtnfcljokgnebmaaDoorW.PrintLast Go.Proofs.YtnfcljokgnebmaaDoor.Biz

theorem addB_succ (h : List Int) (k : Nat) (a : Int) : addB h (k + 1) a = if 0 ≤ a then addB h k (up h (a + 1)) else a := rfl
theorem addB_last (h : List Int) : ∀ (k : Nat) (a : Int), addB h (k + 1) a = if 0 ≤ addB h k a then up h (addB h k a + 1) else addB h k a
  | 0, a => by
    rw [addB_succ]
    rfl
  | k + 1, a => by
    rw [addB_succ]
    by_cases c : 0 ≤ a
    · have e : addB h (k + 1) a = addB h k (up h (a + 1)) := by rw [addB_succ, if_pos c]
      rw [if_pos c, addB_last h k (up h (a + 1)), e]
    · have e : addB h (k + 1) a = a := by rw [addB_succ, if_neg c]
      rw [if_neg c, e, if_neg c]

theorem FnAddBusiness : laws_FnAddBusiness.Pure := by
  intro l hm hl hw
  refine ⟨50000, ?_⟩
  unfold laws_FnAddBusiness.f
  by_cases hbig : (l.length : Int) > 1048576
  · rw [if_pos hbig]
  rw [if_neg hbig]
  obtain ⟨h, n, m, hd, hlen, n0, n1, m0, m1⟩ := drawAdd_ok 50000 l (by omega) hw
  rw [hd]
  simp only [Option.bind_some]
  rw [show impl_AddBusiness.f h n m = some (addDays h n m) from rfl, addBusiness_eq h n m (by omega) 50000 (by omega)]
  simp only [Option.bind_some, if_true]
  have hout : laws_FnAddBusiness.j0 50000 h n m (addDays h n m) true = some true := by
    show laws_FnAddBusiness.j0 (49999 + 1) h n m (addDays h n m) true = some true
    simp only [laws_FnAddBusiness.j0]
    rw [if_pos trivial, addBusiness_eq h n m (by omega) 49999 (by omega)]
    simp
  by_cases c : addDays h n m < 0
  · rw [if_pos c]
    exact hout
  rw [if_neg c]
  by_cases c30 : m ≥ 30
  · rw [if_pos c30]
    exact hout
  rw [if_neg c30]
  by_cases cl : addDays h n m = 36524
  · rw [show (addDays h n m == 36524) = true by simpa using cl]
    exact hout
  rw [show (addDays h n m == 36524) = false by simpa using cl]
  obtain ⟨H, h0, h1, k0, _, r0, r1, r2, ro, rc⟩ := addDays_cnt (h := h) (n := n) (many := m) (by omega)
  show laws_FnAddBusiness.j0 (49999 + 1) h n m (addDays h n m) false = some true
  simp only [laws_FnAddBusiness.j0]
  rw [if_neg (by simp), show impl_IsBusiness.f h (addDays h n m) = some (isB h (addDays h n m)) from rfl, isB_of H (by omega) r1, ro]
  simp only [Option.bind_some, if_true]
  rw [w64 (by omega) (by omega), w64 (by omega) (by omega), show impl_AddBusiness.f h n (m + 1) = some (addDays h n (m + 1)) from rfl]
  simp only [Option.bind_some]
  rw [show impl_AdjustDay.f h (addDays h n m + 1) 1 = some (adjustP h (addDays h n m + 1) 1) from rfl, adjustP_of H (by omega) (by omega), if_neg (by omega), if_pos rfl]
  simp only [Option.bind_some]
  have e : addDays h n (m + 1) = up h (addDays h n m + 1) := by
    have e1 : addDays h n m = addB h m.toNat (up h n) := by
      unfold addDays
      rw [if_pos ⟨holOk_yes H, dayV_yes h0 h1, by omega, by omega⟩]
    have e2 : addDays h n (m + 1) = addB h (m + 1).toNat (up h n) := by
      unfold addDays
      rw [if_pos ⟨holOk_yes H, dayV_yes h0 h1, by omega, by omega⟩]
    rw [e2, show (m + 1).toNat = m.toNat + 1 by omega, addB_last, ← e1, if_pos (by omega)]
  rw [e]
  simp
end Go.Proofs.YtnfcljokgnebmaaDoor.Pure

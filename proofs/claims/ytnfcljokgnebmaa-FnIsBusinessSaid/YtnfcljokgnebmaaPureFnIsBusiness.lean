/-
  The pure statement of FnIsBusiness. Conditions: none.
-/
import Derived.Test.YtnfcljokgnebmaaQx15
import Derived.Test.YtnfcljokgnebmaaQx16
import Derived.Test.YtnfcljokgnebmaaSpecBiz
import Derived.Test.YtnfcljokgnebmaaDrawDay
import Derived.Test.YtnfcljokgnebmaaWeekday
import Derived.Test.YtnfcljokgnebmaaDrawBiz
import Derived.Test.YtnfcljokgnebmaaExt
namespace Go.Proofs.Ytnfcljokgnebmaa.Pure
open Go.RowKit Go.Proofs.Ytnfcljokgnebmaa.Q Go.Proofs.YtnfcljokgnebmaaW.PrintWords Go.Proofs.YtnfcljokgnebmaaW.PrintLast Go.Proofs.Ytnfcljokgnebmaa.Biz

theorem lawsIsIn_l (l : List Int) (x : Int) (hl : l.length ≤ 2097152) : ∀ (d i k : Nat), l.length - i = d → i ≤ l.length → d < k → laws_isIn.l0 k l x (i : Int) = some ((l.drop i).contains x) := by
  intro d
  induction d with
  | zero =>
    intro i k hd hi hk
    obtain ⟨k, rfl⟩ : ∃ m, k = m + 1 := ⟨k - 1, by omega⟩
    simp only [laws_isIn.l0]
    rw [if_neg (by omega), List.drop_eq_nil_of_le (by omega)]
    rfl
  | succ d ih =>
    intro i k hd hi hk
    obtain ⟨k, rfl⟩ : ∃ m, k = m + 1 := ⟨k - 1, by omega⟩
    simp only [laws_isIn.l0]
    rw [if_pos (by omega), if_pos (by omega), rd_at, drop_at l (by omega), List.contains_cons]
    by_cases h : l.getD i 0 = x
    · rw [if_pos h, h]
      simp
    · rw [if_neg h, w64 (by omega) (by omega), show ((i : Int) + 1) = ((i + 1 : Nat) : Int) by omega, ih (i + 1) k (by omega) (by omega) (by omega)]
      have : (x == l.getD i 0) = false := by
        rw [beq_eq_false_iff_ne]
        exact fun e => h e.symm
      rw [this, Bool.false_or]
theorem lawsIsIn_eq (l : List Int) (x : Int) (hl : l.length ≤ 2097152) (k : Nat) (hk : l.length < k) : laws_isIn.f k l x = some (l.contains x) := by
  have := lawsIsIn_l l x hl l.length 0 k (by omega) (by omega) hk
  simpa [laws_isIn.f] using this

theorem FnIsBusiness : laws_FnIsBusiness.Pure := by
  intro l hm hl hw
  refine ⟨200, ?_⟩
  unfold laws_FnIsBusiness.f
  by_cases hbig : (l.length : Int) > 1048576
  · rw [if_pos hbig]
  rw [if_neg hbig]
  obtain ⟨h, n, hd, hlen, n0, n1⟩ := drawIsBusiness_ok 200 l (by omega) hw
  rw [hd]
  simp only [Option.bind_some]
  rw [show impl_IsBusiness.f h n = some (isB h n) from rfl, isBusiness_eq h n (by omega) 200 (by omega)]
  simp only [Option.bind_some]
  rw [if_neg (by simp)]
  have hout : ∀ k, 100 ≤ k → laws_FnIsBusiness.j0 k h n (isB h n) true = some true := by
    intro k hk
    obtain ⟨k, rfl⟩ : ∃ m, k = m + 1 := ⟨k - 1, by omega⟩
    simp only [laws_FnIsBusiness.j0]
    rw [if_pos trivial, isBusiness_eq h n (by omega) k (by omega)]
    simp
  by_cases h0 : n < 0
  · rw [if_pos h0]
    exact hout 200 (by omega)
  rw [if_neg h0]
  by_cases h1 : n > 36524
  · rw [decide_eq_true h1]
    exact hout 200 (by omega)
  rw [decide_eq_false h1]
  show laws_FnIsBusiness.j0 (199 + 1) h n (isB h n) false = some true
  simp only [laws_FnIsBusiness.j0]
  rw [if_neg (by simp), impl_wd]
  simp only [Option.bind_some]
  have ew : wd n = n % 7 := by unfold wd; rw [dayV_yes (by omega) (by omega), if_pos rfl]
  have hnil : HolOk [] := ⟨by simp, fun j hj => by simp at hj, fun j hj => by simp at hj⟩
  have en : isB [] n = decide (n % 7 < 5) := by
    unfold isB
    rw [holOk_yes hnil, dayV_yes (by omega) (by omega)]
    simp [openB]
  rw [show impl_IsBusiness.f [] n = some (isB [] n) from rfl, en, ew]
  simp only [Option.bind_some]
  rw [if_pos (by simp)]
  cases hb : isB h n with
  | false => rw [if_neg (by simp)]
  | true =>
    have hb2 : n % 7 < 5 ∧ h.contains n = false := by
      have : openB h n = true := by
        have := hb
        unfold isB at this
        simp only [Bool.and_eq_true] at this
        exact this.2.2
      simpa [openB] using this
    rw [if_pos rfl, if_pos hb2.1, lawsIsIn_eq h n (by omega) 199 (by omega), hb2.2]
    rfl
end Go.Proofs.Ytnfcljokgnebmaa.Pure

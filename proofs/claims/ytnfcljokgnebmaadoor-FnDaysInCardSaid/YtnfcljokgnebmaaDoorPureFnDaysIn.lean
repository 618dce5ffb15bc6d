/-
  The pure statement of FnDaysIn (printed Lean functions). Conditions: none beyond the statement's own.
-/
import Derived.Test.YtnfcljokgnebmaaDoorQx8
import Derived.Test.YtnfcljokgnebmaaDoorDaysLaws
import Derived.Test.YtnfcljokgnebmaaDoorDrawDays
namespace Go.Proofs.YtnfcljokgnebmaaDoor.Pure
open Go.RowKit Go.Proofs.YtnfcljokgnebmaaDoor.Q Go.Proofs.YtnfcljokgnebmaaDoorW.PrintWords Go.Proofs.YtnfcljokgnebmaaDoorW.PrintLast Go.Proofs.YtnfcljokgnebmaaDoor.Biz

theorem days_sum (y : Int) (hy : 1990 ≤ y ∧ y ≤ 2089) (n : Int) : ∀ (d : Nat) (m : Int) (all : Int) (k : Nat), (13 - m).toNat = d → 1 ≤ m → m ≤ 13 → all = cm y (m - 1).toNat → d < k →
    laws_FnDaysIn.l0 k y n all m = laws_FnDaysIn.l0 (k - d) y n (cm y 12) 13 := by
  intro d
  induction d with
  | zero =>
    intro m all k hd h1 h2 ha hk
    have : m = 13 := by omega
    subst this
    rw [ha]
    rfl
  | succ d ih =>
    intro m all k hd h1 h2 ha hk
    obtain ⟨k, rfl⟩ : ∃ m, k = m + 1 := ⟨k - 1, by omega⟩
    have hb := dim_bd y (m := m) h1 (by omega)
    have hc := cm_bd y (i := (m - 1).toNat) (by omega)
    have hs := cm_step y (m - 1).toNat
    rw [show (m - 1).toNat + 1 = m.toNat by omega, show (((m - 1).toNat : Nat) : Int) + 1 = m by omega] at hs
    have h0 : cm0 (m - 1).toNat ≤ 365 := by
      rcases nat_cases (i := (m - 1).toNat) (by omega) with h | h | h | h | h | h | h | h | h | h | h | h | h <;> rw [h] <;> decide
    have h0' : 0 ≤ cm0 (m - 1).toNat := by
      rcases nat_cases (i := (m - 1).toNat) (by omega) with h | h | h | h | h | h | h | h | h | h | h | h | h <;> rw [h] <;> decide
    conv => lhs; rw [laws_FnDaysIn.l0]
    rw [if_pos (by omega), impl_daysP]
    simp only [Option.bind_some]
    have e : daysP y m = dim y m := by unfold daysP; rw [if_pos ⟨hy, by omega⟩]
    rw [e, w64 (by omega) (by omega), w64 (by omega) (by omega), ih (m + 1) (all + dim y m) k (by omega) (by omega) (by omega) (by rw [show (m + 1 - 1).toNat = m.toNat by omega, hs, ha]) (by omega)]
    rw [show k + 1 - (d + 1) = k - d by omega]

theorem FnDaysIn : laws_FnDaysIn.Pure := by
  intro l hm hl hw
  refine ⟨100, ?_⟩
  unfold laws_FnDaysIn.f
  by_cases hbig : (l.length : Int) > 1048576
  · rw [if_pos hbig]
  rw [if_neg hbig]
  obtain ⟨y, m, hd, y0, y1, m0, m1⟩ := drawDays_ok 100 l (by omega) hw
  rw [hd]
  simp only [Option.bind_some]
  rw [impl_daysP, spec_daysP]
  simp only [Option.bind_some, if_true]
  by_cases c : daysP y m < 0
  · rw [decide_eq_true c]
    show laws_FnDaysIn.j0 (99 + 1) y m (daysP y m) true = some true
    simp only [laws_FnDaysIn.j0]
    rw [if_pos trivial, spec_daysP]
    simp
  · rw [decide_eq_false c]
    obtain ⟨hy, hm⟩ := daysP_yes (y := y) (m := m) (by omega)
    show laws_FnDaysIn.j0 (99 + 1) y m (daysP y m) false = some true
    simp only [laws_FnDaysIn.j0]
    rw [if_neg (by simp), days_sum y hy (daysP y m) 12 1 0 99 (by omega) (by omega) (by omega) rfl (by omega)]
    show laws_FnDaysIn.l0 (86 + 1) y (daysP y m) (cm y 12) 13 = some true
    generalize (86 : Nat) = K
    simp only [laws_FnDaysIn.l0]
    rw [if_neg (by omega), impl_daysP]
    simp only [Option.bind_some]
    have e2 : daysP y 2 = dim y 2 := by unfold daysP; rw [if_pos ⟨hy, by omega⟩]
    have en : daysP y m = dim y m := by unfold daysP; rw [if_pos ⟨hy, hm⟩]
    have hb := dim_bd y (m := m) hm.1 hm.2
    have hs : cm y 12 = wrap64 (337 + dim y 2) := by
      rw [cm_year]
      unfold yd dim
      cases leapB y <;> decide +kernel
    rw [e2, en, if_pos hs, if_pos (by omega)]
    simp
    omega
end Go.Proofs.YtnfcljokgnebmaaDoor.Pure

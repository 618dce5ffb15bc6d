/-
  The pure statement of FnSwapRateCurve (printed Lean functions). Conditions: none beyond the statement's own.
-/
import Derived.Test.YtbofmoelmhbpoaaDoorQx9
import Derived.Test.YtbofmoelmhbpoaaDoorCurOf
import Derived.Test.YtbofmoelmhbpoaaDoorCurSwap
import Derived.Test.YtbofmoelmhbpoaaDoorDrawCur
import Derived.Test.YtbofmoelmhbpoaaDoorRngIn
namespace Go.Proofs.YtbofmoelmhbpoaaDoor.Pure
open Go.RowKit Go.Proofs.YtbofmoelmhbpoaaDoor.Q Go.Proofs.YtbofmoelmhbpoaaDoorW.PrintWords Go.Proofs.YtbofmoelmhbpoaaDoorW.PrintLast Go.Proofs.YtbofmoelmhbpoaaDoor.Rng

theorem swapCurve_loop (r : List Int) (o : List (Int × Int)) (h1 : okRates r) (h2 : 1 ≤ r.length) (h3 : r.length ≤ 12) (ho : curSt r r.length = some o) (hol : o.length = r.length) (hoc : okCs o) :
    ∀ (d i k : Nat), i + d = r.length → d + 40 < k → laws_FnSwapRateCurve.l0 k r (o.map toS) (i : Int) = some true
  | 0, i, k, hi, hk => by
    obtain ⟨k, rfl⟩ : ∃ m, k = m + 1 := ⟨k - 1, by omega⟩
    simp only [laws_FnSwapRateCurve.l0]
    rw [if_neg (by omega)]
  | d + 1, i, k, hi, hk => by
    obtain ⟨k, rfl⟩ : ∃ m, k = m + 1 := ⟨k - 1, by omega⟩
    have len : (o.map toS).length = r.length := by rw [List.length_map, hol]
    obtain ⟨q, _, q1, q2, q3⟩ := swap_curve h1 h2 h3 ho (show i < r.length by omega)
    have ri := h1 i (by omega)
    have e : swapF (o.map toS) ((i + 1 : Nat) : Int) = ((swapV o (i + 1)).1, (swapV o (i + 1)).2, true) := by
      unfold swapF
      rw [ps_toS, if_pos ⟨q, by omega, by omega⟩, show (((i + 1 : Nat) : Int)).toNat = i + 1 by omega, lim_yes q1]
    simp only [laws_FnSwapRateCurve.l0]
    rw [if_pos (by omega), w64 (n := (i : Int) + 1) (by omega) (by omega), show (i : Int) + 1 = ((i + 1 : Nat) : Int) by omega, impl_swap _ _ _ (by omega) (by omega), e]
    simp only [Option.bind_some]
    rw [if_pos trivial, if_pos (by omega), rd_rates, w64 (n := 100 * r.getD i 0) (by omega) (by omega), impl_in]
    simp only [Option.bind_some]
    rw [if_pos (decide_eq_true ⟨q1, q2, q3⟩)]
    exact swapCurve_loop r o h1 h2 h3 ho hol hoc d (i + 1) k (by omega) (by omega)

theorem FnSwapRateCurve : laws_FnSwapRateCurve.Pure := by
  intro l hm hl hw
  refine ⟨200, ?_⟩
  unfold laws_FnSwapRateCurve.f
  by_cases hbig : (l.length : Int) > 1048576
  · rw [if_pos hbig]
  rw [if_neg hbig]
  obtain ⟨r, hd⟩ := drawCur_ok 200 l (by omega) hw
  have hc := curF_len r
  rw [hd]
  simp only [Option.bind_some]
  rw [impl_cur _ (by omega)]
  simp only [Option.bind_some]
  rw [spec_cur _ (by omega)]
  simp only [Option.bind_some]
  rw [equalRanges_self _ _ (by omega) (by omega)]
  simp only [Option.bind_some]
  rw [if_pos trivial, if_neg (by simp)]
  by_cases hno : ¬ (curF r).2 = true
  · rw [show (!(curF r).2) = true by simpa using hno]
    show laws_FnSwapRateCurve.j0 (199 + 1) _ _ _ _ _ _ = some true
    simp only [laws_FnSwapRateCurve.j0]
    rw [if_pos trivial, equalRanges_self _ _ (by omega) (by omega)]
    simp
  have hok := Classical.not_not.1 hno
  obtain ⟨h1, h2, h3, o, ho, he, hol, hoc⟩ := curF_ok hok
  rw [show (!(curF r).2) = false by simp [hok]]
  show laws_FnSwapRateCurve.j0 (199 + 1) _ _ _ _ _ _ = some true
  simp only [laws_FnSwapRateCurve.j0]
  rw [if_neg (by simp), he]
  exact swapCurve_loop r o h1 h2 h3 ho hol hoc r.length 0 199 (by omega) (by omega)
end Go.Proofs.YtbofmoelmhbpoaaDoor.Pure

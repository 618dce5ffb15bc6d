/-
  The pure statement of FnSwapRate (printed Lean functions). Conditions: none beyond the statement's own.
-/
import Derived.Test.YtbofmoelmhbpoaaDoorQx9
import Derived.Test.YtbofmoelmhbpoaaDoorCurSwap
import Derived.Test.YtbofmoelmhbpoaaDoorDrawCurve
import Derived.Test.YtbofmoelmhbpoaaDoorRngMul
import Derived.Test.YtbofmoelmhbpoaaDoorRngAdd
namespace Go.Proofs.YtbofmoelmhbpoaaDoor.Pure
open Go.RowKit Go.Proofs.YtbofmoelmhbpoaaDoor.Q Go.Proofs.YtbofmoelmhbpoaaDoorW.PrintWords Go.Proofs.YtbofmoelmhbpoaaDoorW.PrintLast Go.Proofs.YtbofmoelmhbpoaaDoor.Rng

theorem swapLaw_loop (c : List SR) (q : okCurve (ps c)) (n : Nat) (hn : n + 1 ≤ (ps c).length) (hs : okR (swapV (ps c) (n + 1)).1 (swapV (ps c) (n + 1)).2 = true) : ∀ (d i k : Nat), i + d = n + 1 → d < k →
    laws_FnSwapRate.l0 k c ((n + 1 : Nat) : Int) (sL (ps c) i) (sH (ps c) i) (i : Int) (swapV (ps c) (n + 1)).1 (swapV (ps c) (n + 1)).2 = some true
  | 0, i, k, hi, hk => by
    obtain ⟨k, rfl⟩ : ∃ m, k = m + 1 := ⟨k - 1, by omega⟩
    obtain rfl : i = n + 1 := by omega
    obtain ⟨a, b1, b2, b3, b4, b5⟩ := swapV_bd q (show 1 ≤ n + 1 by omega) hn
    obtain ⟨v1, v2⟩ := swapV_one q (show 1 ≤ n + 1 by omega) hn
    have hn2 := hn
    rw [ps_length] at hn2
    have ll := q.2.2
    rw [after_succ] at a v1 v2
    simp only [laws_FnSwapRate.l0]
    rw [if_neg (by omega), impl_mul]
    simp only [Option.bind_some]
    rw [w64 (n := ((n + 1 : Nat) : Int) - 1) (by omega) (by omega), if_pos (by omega), if_pos (by omega), rd0, rd1, show (((n + 1 : Nat) : Int) - 1).toNat = n by omega, impl_add]
    simp only [Option.bind_some]
    by_cases h : (mulR (swapV (ps c) (n + 1)).1 (swapV (ps c) (n + 1)).2 (sL (ps c) (n + 1)) (sH (ps c) (n + 1))).2.2 = true
    · obtain ⟨_, _, m1, m2⟩ := mulR_ok h
      rw [m2]
      refine (if_pos rfl).trans ?_
      dsimp only
      by_cases g : (addR (mulLo (swapV (ps c) (n + 1)).1 (swapV (ps c) (n + 1)).2 (sL (ps c) (n + 1)) (sH (ps c) (n + 1))) (mulHi (swapV (ps c) (n + 1)).1 (swapV (ps c) (n + 1)).2 (sL (ps c) (n + 1)) (sH (ps c) (n + 1))) ((ps c).getD n (0, 0)).1 ((ps c).getD n (0, 0)).2).2.2 = true
      · obtain ⟨_, _, _, g2⟩ := addR_ok g
        rw [if_pos g, g2]
        dsimp only
        rw [if_pos v1]
        exact congrArg some (decide_eq_true v2)
      · rw [if_neg g]
    · rw [if_neg h]
  | d + 1, i, k, hi, hk => by
    obtain ⟨k, rfl⟩ : ∃ m, k = m + 1 := ⟨k - 1, by omega⟩
    have hn2 := hn
    rw [ps_length] at hn2
    have ll := q.2.2
    have b := sLH_bd q.1 (i + 1) (by omega)
    have e0 : sL (ps c) i + ((ps c).getD i (0, 0)).1 = sL (ps c) (i + 1) := rfl
    have e1 : sH (ps c) i + ((ps c).getD i (0, 0)).2 = sH (ps c) (i + 1) := rfl
    simp only [laws_FnSwapRate.l0]
    rw [if_pos (by omega), if_pos (by omega), if_pos (by omega), rd0, rd1, show ((i : Int)).toNat = i by omega, e0, e1, w64 (n := sL (ps c) (i + 1)) (by omega) (by omega), w64 (n := sH (ps c) (i + 1)) (by omega) (by omega), w64 (n := (i : Int) + 1) (by omega) (by omega), show (i : Int) + 1 = ((i + 1 : Nat) : Int) by omega]
    exact swapLaw_loop c q n hn hs d (i + 1) k (by omega) (by omega)

theorem FnSwapRate : laws_FnSwapRate.Pure := by
  intro l hm hl hw
  refine ⟨200, ?_⟩
  unfold laws_FnSwapRate.f
  by_cases hbig : (l.length : Int) > 1048576
  · rw [if_pos hbig]
  rw [if_neg hbig]
  obtain ⟨c, n, hd, hc⟩ := drawSwap_ok 200 l (by omega) hw
  rw [hd]
  simp only [Option.bind_some]
  rw [impl_swap _ _ _ (by omega) (by omega), spec_swap _ _ _ (by omega) (by omega)]
  simp only [Option.bind_some]
  rw [if_neg (by simp), if_neg (by simp)]
  by_cases hno : ¬ (swapF c n).2.2 = true
  · rw [show (!(swapF c n).2.2) = true by simpa using hno]
    show laws_FnSwapRate.j0 (199 + 1) _ _ _ _ _ _ _ _ _ = some true
    simp only [laws_FnSwapRate.j0]
    rw [if_pos trivial]
    simp
  have hok := Classical.not_not.1 hno
  rw [show (!(swapF c n).2.2) = false by simp [hok]]
  have hin : okCurve (ps c) ∧ 1 ≤ n ∧ n ≤ (c.length : Int) := by
    refine Classical.byContradiction fun e => ?_
    unfold swapF at hok
    rw [if_neg e] at hok
    cases hok
  have sF : swapF c n = lim (swapV (ps c) n.toNat).1 (swapV (ps c) n.toNat).2 := by
    unfold swapF
    rw [if_pos hin]
  obtain ⟨k0, n0, n1⟩ := hin
  obtain ⟨n, rfl⟩ := Int.eq_ofNat_of_zero_le (show 0 ≤ n by omega)
  obtain ⟨n, rfl⟩ : ∃ m, n = m + 1 := ⟨n - 1, by omega⟩
  rw [sF] at hok
  obtain ⟨s1, s2⟩ := lim_ok hok
  show laws_FnSwapRate.j0 (199 + 1) _ _ _ _ _ _ _ _ _ = some true
  simp only [laws_FnSwapRate.j0]
  rw [if_neg (by simp), sF, s2]
  exact swapLaw_loop c k0 n (by rw [ps_length]; omega) s1 (n + 1) 0 199 (by omega) (by omega)
end Go.Proofs.YtbofmoelmhbpoaaDoor.Pure

/-
  The value of a bond that pays a rate, as the printed Lean functions compute it. Conditions: they stand in each theorem.
-/
import Derived.Test.YtpijjacnbpnlfaaDoorQx5
import Derived.Test.YtpijjacnbpnlfaaDoorQx6
import Derived.Test.YtpijjacnbpnlfaaDoorQx7
import Derived.Test.YtpijjacnbpnlfaaDoorQx8
import Derived.Test.YtpijjacnbpnlfaaDoorCurFun
namespace Go.Proofs.YtpijjacnbpnlfaaDoor.Rng
open Go.RowKit Go.Proofs.YtpijjacnbpnlfaaDoor.Q Go.Proofs.YtpijjacnbpnlfaaDoorW.PrintWords Go.Proofs.YtpijjacnbpnlfaaDoorW.PrintLast

/-- The value of a bond that pays a rate, for all arguments. -/
noncomputable def parF (c : List SR) (r n : Int) : Int × Int × Bool := if okCurve (ps c) ∧ (0 ≤ r ∧ r ≤ 3000) ∧ 1 ≤ n ∧ n ≤ (c.length : Int) then ((parV (ps c) r n.toNat).1, (parV (ps c) r n.toNat).2, true) else (0, 0, false)
def sumP (c : List (Int × Int)) (i : Nat) : List (Int × Int) := (List.range (i + 1)).map fun j => (sL c j, sH c j)
theorem sumP_len (c : List (Int × Int)) (i : Nat) : (sumP c i).length = i + 1 := by simp [sumP]
theorem sumP_at (c : List (Int × Int)) {i j : Nat} (h : j ≤ i) : (sumP c i).getD j (0, 0) = (sL c j, sH c j) := by
  unfold sumP
  simp [List.getD, List.getElem?_map, List.getElem?_range (show j < i + 1 by omega)]
theorem sumP_succ (c : List (Int × Int)) (i : Nat) : sumP c (i + 1) = sumP c i ++ [(sL c (i + 1), sH c (i + 1))] := by
  unfold sumP
  rw [List.range_succ, List.map_append]
  rfl
theorem sumsOf_loop (c : List SR) (hc : okCurve (ps c)) : ∀ (d i k : Nat), i + d = c.length → d < k → impl_sumsOf.l0 k ((sumP (ps c) i).map toS) c (c.length : Int) (i : Int) = some ((sumP (ps c) c.length).map toS)
  | 0, i, k, hi, hk => by
    obtain ⟨k, rfl⟩ : ∃ m, k = m + 1 := ⟨k - 1, by omega⟩
    simp only [impl_sumsOf.l0]
    rw [if_neg (by omega), show i = c.length by omega]
  | d + 1, i, k, hi, hk => by
    obtain ⟨k, rfl⟩ : ∃ m, k = m + 1 := ⟨k - 1, by omega⟩
    have hl := hc.2.2
    rw [ps_length] at hl
    have b := sLH_bd hc.1 (i + 1) (by rw [ps_length]; omega)
    have len : ((sumP (ps c) i).map toS).length = i + 1 := by rw [List.length_map, sumP_len]
    have e0 : sL (ps c) i + ((ps c).getD i (0, 0)).1 = sL (ps c) (i + 1) := rfl
    have e1 : sH (ps c) i + ((ps c).getD i (0, 0)).2 = sH (ps c) (i + 1) := rfl
    have key : (sumP (ps c) i).map toS ++ [toS (sL (ps c) (i + 1), sH (ps c) (i + 1))] = (sumP (ps c) (i + 1)).map toS := by
      rw [sumP_succ, List.map_append]
      rfl
    simp only [impl_sumsOf.l0]
    rw [if_pos (by omega), if_pos (by omega), if_pos (by omega), if_pos (by rw [len]; omega), if_pos (by rw [len]; omega), rd0, rd1, rd0, rd1, ps_toS, show ((i : Int)).toNat = i by omega, sumP_at _ (Nat.le_refl i)]
    dsimp only
    rw [e0, e1, w64 (n := sL (ps c) (i + 1)) (by omega) (by omega), w64 (n := sH (ps c) (i + 1)) (by omega) (by omega), w64 (n := (i : Int) + 1) (by omega) (by omega), show (i : Int) + 1 = ((i + 1 : Nat) : Int) by omega]
    refine Eq.trans (congrArg (fun x => impl_sumsOf.l0 k x c (c.length : Int) ((i + 1 : Nat) : Int)) key) ?_
    exact sumsOf_loop c hc d (i + 1) k (by omega) (by omega)
theorem sumsOf_is (k : Nat) (c : List SR) (hc : okCurve (ps c)) (hk : c.length < k) : impl_sumsOf.f k c = some ((sumP (ps c) c.length).map toS) := by
  have hl := hc.2.2
  rw [ps_length] at hl
  unfold impl_sumsOf.f
  rw [w64 (n := (c.length : Int) + 1) (by omega) (by omega), if_pos (by omega), if_pos (by omega)]
  exact sumsOf_loop c hc c.length 0 k (by omega) hk
theorem impl_par (k : Nat) (c : List SR) (r n : Int) (hl : c.length ≤ 1048576) (hk : c.length + 2 < k) : impl_ParValue.f k c r n = some (parF c r n) := by
  obtain ⟨k, rfl⟩ : ∃ m, k = m + 1 := ⟨k - 1, by omega⟩
  unfold impl_ParValue.f parF impl_yearsIn.f impl_rateValid.f
  rw [impl_cv (k + 1) c hl (by omega)]
  simp only [Option.bind_some, impl_ParValue.j0]
  by_cases q : okCurve (ps c)
  · rw [if_pos (decide_eq_true q), within_eq]
    simp only [Option.bind_some]
    by_cases g : 1 ≤ n ∧ n ≤ (c.length : Int)
    · rw [if_pos (decide_eq_true g), within_eq]
      simp only [Option.bind_some]
      by_cases g2 : 0 ≤ r ∧ r ≤ 3000
      · obtain ⟨n, rfl⟩ := Int.eq_ofNat_of_zero_le (show 0 ≤ n by omega)
        obtain ⟨n, rfl⟩ : ∃ m, n = m + 1 := ⟨n - 1, by omega⟩
        have hn : n + 1 ≤ (ps c).length := by rw [ps_length]; omega
        have len : ((sumP (ps c) c.length).map toS).length = c.length + 1 := by rw [List.length_map, sumP_len]
        have p := parV_bd q g2.1 g2.2 hn
        have b := sLH_bd q.1 (n + 1) hn
        have ll := q.2.2
        have a := after_ok q.1 hn
        rw [after_succ] at a
        obtain ⟨a0, a1, a2⟩ := a
        rw [if_neg (by simp [g2]), if_pos ⟨q, g2, g⟩, sumsOf_is k c q (by omega)]
        simp only [Option.bind_some]
        rw [if_pos (by omega), if_pos (by rw [len]; omega), w64 (n := ((n + 1 : Nat) : Int) - 1) (by omega) (by omega), if_pos (by omega), if_pos (by omega), rd0, rd1, rd0, rd1, ps_toS, show (((n + 1 : Nat) : Int)).toNat = n + 1 by omega, sumP_at _ (show n + 1 ≤ c.length by rw [ps_length] at hn; exact hn), show (((n + 1 : Nat) : Int) - 1).toNat = n by omega]
        dsimp only
        rw [w64 (n := 100 * r) (by omega) (by omega), w64 (n := 100 * r * sL (ps c) (n + 1)) (by omega) (by omega), w64 (n := 100 * r * sH (ps c) (n + 1)) (by omega) (by omega), floor_is _ _ (by omega) (by omega) (by omega)]
        simp only [Option.bind_some]
        rw [ceil_is _ _ (by omega) (by omega) (by omega)]
        simp only [Option.bind_some]
        have c1 := cdv_le (n := 100 * r * sH (ps c) (n + 1)) (b := 1000000) (q := 4000000) (by omega) (by omega)
        have c2 := le_cdv (n := 100 * r * sH (ps c) (n + 1)) (b := 1000000) (q := 0) (by omega) (by omega)
        rw [w64 (n := 100 * r * sL (ps c) (n + 1) / 1000000 + _) (by omega) (by omega), w64 (n := cdv (100 * r * sH (ps c) (n + 1)) 1000000 + _) (by omega) (by omega)]
        rfl
      · rw [if_pos (by simp; omega), if_neg (fun e => g2 e.2.1)]
    · rw [if_neg (by simpa using g), if_pos trivial, if_neg (fun e => g e.2.2)]
  · rw [if_neg (by simpa using q)]
    simp only [Option.bind_some]
    rw [if_neg (by simp), if_pos trivial, if_neg (fun e => q e.1)]
theorem spec_par_loop (c : List SR) (q : okCurve (ps c)) (r : Int) (g2 : 0 ≤ r ∧ r ≤ 3000) (n : Nat) (hn : n + 1 ≤ (ps c).length) : ∀ (d i k : Nat), i + d = n + 1 → d < k →
    spec_ParValue.l0 k c r ((n + 1 : Nat) : Int) (sL (ps c) i) (sH (ps c) i) (i : Int) = some ((parV (ps c) r (n + 1)).1, (parV (ps c) r (n + 1)).2, true)
  | 0, i, k, hi, hk => by
    obtain ⟨k, rfl⟩ : ∃ m, k = m + 1 := ⟨k - 1, by omega⟩
    obtain rfl : i = n + 1 := by omega
    have p := parV_bd q g2.1 g2.2 hn
    have a := after_ok q.1 hn
    rw [after_succ] at a
    obtain ⟨a0, a1, a2⟩ := a
    have hn2 := hn
    rw [ps_length] at hn2
    have ll := q.2.2
    simp only [spec_ParValue.l0]
    rw [if_neg (by omega), w64 (n := ((n + 1 : Nat) : Int) - 1) (by omega) (by omega), if_pos (by omega), if_pos (by omega), rd0, rd1, show (((n + 1 : Nat) : Int) - 1).toNat = n by omega, w64 (n := 100 * r) (by omega) (by omega), w64 (n := 100 * r * sL (ps c) (n + 1)) (by omega) (by omega), w64 (n := 100 * r * sH (ps c) (n + 1)) (by omega) (by omega), floorDiv_is _ _ (by omega) (by omega) (by omega)]
    simp only [Option.bind_some]
    rw [ceilDiv_is _ _ (by omega) (by omega) (by omega)]
    simp only [Option.bind_some]
    have c1 := cdv_le (n := 100 * r * sH (ps c) (n + 1)) (b := 1000000) (q := 4000000) (by omega) (by omega)
    have c2 := le_cdv (n := 100 * r * sH (ps c) (n + 1)) (b := 1000000) (q := 0) (by omega) (by omega)
    rw [w64 (n := 100 * r * sL (ps c) (n + 1) / 1000000 + _) (by omega) (by omega), w64 (n := cdv (100 * r * sH (ps c) (n + 1)) 1000000 + _) (by omega) (by omega)]
    rfl
  | d + 1, i, k, hi, hk => by
    obtain ⟨k, rfl⟩ : ∃ m, k = m + 1 := ⟨k - 1, by omega⟩
    have hn2 := hn
    rw [ps_length] at hn2
    have ll := q.2.2
    have b := sLH_bd q.1 (i + 1) (by omega)
    have e0 : sL (ps c) i + ((ps c).getD i (0, 0)).1 = sL (ps c) (i + 1) := rfl
    have e1 : sH (ps c) i + ((ps c).getD i (0, 0)).2 = sH (ps c) (i + 1) := rfl
    simp only [spec_ParValue.l0]
    rw [if_pos (by omega), if_pos (by omega), if_pos (by omega), rd0, rd1, show ((i : Int)).toNat = i by omega, e0, e1, w64 (n := sL (ps c) (i + 1)) (by omega) (by omega), w64 (n := sH (ps c) (i + 1)) (by omega) (by omega), w64 (n := (i : Int) + 1) (by omega) (by omega), show (i : Int) + 1 = ((i + 1 : Nat) : Int) by omega]
    exact spec_par_loop c q r g2 n hn d (i + 1) k (by omega) (by omega)
theorem spec_par (k : Nat) (c : List SR) (r n : Int) (hl : c.length ≤ 1048576) (hk : c.length + 4 < k) : spec_ParValue.f k c r n = some (parF c r n) := by
  obtain ⟨k, rfl⟩ : ∃ m, k = m + 1 := ⟨k - 1, by omega⟩
  unfold spec_ParValue.f parF
  rw [spec_cv (k + 1) c hl (by omega)]
  simp only [Option.bind_some, spec_ParValue.j0]
  by_cases q : okCurve (ps c)
  · rw [if_pos (decide_eq_true q), inRange_eq]
    simp only [Option.bind_some]
    by_cases g2 : 0 ≤ r ∧ r ≤ 3000
    · rw [if_pos (decide_eq_true g2), inRange_eq]
      simp only [Option.bind_some]
      by_cases g : 1 ≤ n ∧ n ≤ (c.length : Int)
      · obtain ⟨n, rfl⟩ := Int.eq_ofNat_of_zero_le (show 0 ≤ n by omega)
        obtain ⟨n, rfl⟩ : ∃ m, n = m + 1 := ⟨n - 1, by omega⟩
        rw [if_neg (by rw [decide_eq_true g]; simp), if_pos ⟨q, g2, g⟩]
        exact spec_par_loop c q r g2 n (by rw [ps_length]; omega) (n + 1) 0 k (by omega) (by omega)
      · rw [if_pos (by simp; omega), if_neg (fun e => g e.2.2)]
    · rw [if_neg (by simpa using g2), if_pos trivial, if_neg (fun e => g2 e.2.1)]
  · rw [if_neg (by simpa using q), if_pos trivial, if_neg (fun e => q e.1)]
end Go.Proofs.YtpijjacnbpnlfaaDoor.Rng

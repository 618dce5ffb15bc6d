/-
  CurveOf (printed Lean functions of the program and of the reference): the values that rates imply. Conditions: they stand in each theorem.
-/
import Derived.Test.YtbofmoelmhbpoaaDoorQx2
import Derived.Test.YtbofmoelmhbpoaaDoorQx4
import Derived.Test.YtbofmoelmhbpoaaDoorQx5
import Derived.Test.YtbofmoelmhbpoaaDoorQx6
import Derived.Test.YtbofmoelmhbpoaaDoorRngDiv
import Derived.Test.YtbofmoelmhbpoaaDoorCurBase
namespace Go.Proofs.YtbofmoelmhbpoaaDoor.Rng
open Go.RowKit Go.Proofs.YtbofmoelmhbpoaaDoor.Q Go.Proofs.YtbofmoelmhbpoaaDoorW.PrintWords Go.Proofs.YtbofmoelmhbpoaaDoorW.PrintLast

/-- What the values after all years are: the list, or nothing. -/
def outOf : Option (List (Int × Int)) → List SR × Bool
  | some o => (o.map toS, true)
  | none => ([], false)
noncomputable instance decRates (l : List Int) : Decidable (okRates l) := Classical.propDecidable _
noncomputable def curF (l : List Int) : List SR × Bool := if okRates l ∧ 1 ≤ l.length ∧ l.length ≤ 12 then outOf (curSt l l.length) else ([], false)
theorem curF_yes {l : List Int} (h : okRates l) (h1 : 1 ≤ l.length) (h2 : l.length ≤ 12) : curF l = outOf (curSt l l.length) := if_pos ⟨h, h1, h2⟩
theorem curF_no {l : List Int} (h : ¬ (okRates l ∧ 1 ≤ l.length ∧ l.length ≤ 12)) : curF l = ([], false) := if_neg h
theorem curF_ok {l : List Int} (h : (curF l).2 = true) : okRates l ∧ 1 ≤ l.length ∧ l.length ≤ 12 ∧ ∃ o, curSt l l.length = some o ∧ curF l = (o.map toS, true) ∧ o.length = l.length ∧ okCs o := by
  by_cases k : okRates l ∧ 1 ≤ l.length ∧ l.length ≤ 12
  · refine ⟨k.1, k.2.1, k.2.2, ?_⟩
    rw [curF_yes k.1 k.2.1 k.2.2] at h ⊢
    cases hc : curSt l l.length with
    | none => rw [hc] at h; cases h
    | some o =>
      obtain ⟨a, b⟩ := curSt_ok k.1 l.length o (Nat.le_refl _) hc
      exact ⟨o, rfl, rfl, a, b⟩
  · rw [curF_no k] at h
    cases h
theorem curF_len (l : List Int) : (curF l).1.length ≤ 12 := by
  by_cases k : okRates l ∧ 1 ≤ l.length ∧ l.length ≤ 12
  · rw [curF_yes k.1 k.2.1 k.2.2]
    cases hc : curSt l l.length with
    | none => simp [outOf]
    | some o =>
      obtain ⟨a, _⟩ := curSt_ok k.1 l.length o (Nat.le_refl _) hc
      simp [outOf, a]
      exact k.2.2
  · rw [curF_no k]
    simp
theorem rd_rates (l : List Int) (i : Nat) : rd l (i : Int) = l.getD i 0 := by
  unfold rd
  rw [show ((i : Int)).toNat = i by omega]
/-- Products with a rate stay small. -/
theorem rate_bd {r s : Int} (h0 : 0 ≤ r) (h1 : r ≤ 3000) (hs : 0 ≤ s) (hs1 : s ≤ 12000000) : 0 ≤ 100 * r * s ∧ 100 * r * s ≤ 3600000000000 := by
  have e0 := Int.mul_nonneg (show 0 ≤ 100 * r by omega) hs
  have e1 : 100 * r * s ≤ 300000 * 12000000 := Int.mul_le_mul (by omega) hs1 hs (by omega)
  omega
theorem implLoop1 (l : List Int) (hr : okRates l) (h2 : l.length ≤ 12) : ∀ (d i k : Nat) (o : List (Int × Int)), i + d = l.length → d < k → curSt l i = some o →
    impl_CurveOf.l1 k (o.map toS) l (l.length : Int) (i : Int) (sL o i) (sH o i) = some (outOf (curSt l l.length))
  | 0, i, k, o, hi, hk, ho => by
    obtain ⟨k, rfl⟩ : ∃ m, k = m + 1 := ⟨k - 1, by omega⟩
    simp only [impl_CurveOf.l1]
    obtain rfl : i = l.length := by omega
    rw [if_neg (by omega), ho]
    rfl
  | d + 1, i, k, o, hi, hk, ho => by
    obtain ⟨k, rfl⟩ : ∃ m, k = m + 1 := ⟨k - 1, by omega⟩
    simp only [impl_CurveOf.l1]
    obtain ⟨ol, oc⟩ := curSt_ok hr i o (by omega) ho
    have b := sLH_bd oc i (by omega)
    have r := hr i (by omega)
    rw [if_pos (by omega), if_pos (by omega), if_pos (by omega), rd_rates]
    have nxt := curSt_succ l i
    rw [ho, Option.bind_some] at nxt
    have dead : curSt l (i + 1) = none → curSt l l.length = none := fun e => by
      have := curSt_dead e d
      rwa [show i + 1 + d = l.length by omega] at this
    generalize l.getD i 0 = x at *
    have m1 := rate_bd r.1 r.2 (show 0 ≤ sH o i by omega) (by omega)
    have m2 := rate_bd r.1 r.2 (show 0 ≤ sL o i by omega) (by omega)
    have rest := stepR_rest r.1 (show 0 ≤ sL o i by omega) b.2.1
    have c1 := cdv_bd (100 * x * sH o i) 1000000 (by omega)
    have c2 : 0 ≤ cdv (100 * x * sH o i) 1000000 := by omega
    rw [w64 (n := 100 * x) (by omega) (by omega), w64 (n := 100 * x * sH o i) (by omega) (by omega), w64 (n := 100 * x * sL o i) (by omega) (by omega), ceil_is _ _ (by omega) (by omega) (by omega), floor_is _ _ (by omega) (by omega) (by omega)]
    simp only [Option.bind_some]
    rw [w64 (n := 1000000 + 100 * x) (by omega) (by omega), exactly_is]
    simp only [Option.bind_some]
    rw [w64 (n := 1000000 - cdv (100 * x * sH o i) 1000000) (by omega) (by omega), w64 (n := 1000000 - 100 * x * sL o i / 1000000) (by omega) (by omega), through_is]
    simp only [Option.bind_some]
    by_cases q : 1000000 - cdv (100 * x * sH o i) 1000000 ≤ 0
    · rw [if_pos q]
      have : stepR x (sL o i) (sH o i) = none := by unfold stepR; rw [if_pos q]
      rw [this] at nxt
      rw [dead nxt]
      rfl
    · have d1 := divLo_le_Hi (a := 1000000 - cdv (100 * x * sH o i) 1000000) (b := 1000000 - 100 * x * sL o i / 1000000) (c := 1000000 + 100 * x) (d := 1000000 + 100 * x) (by omega) (by omega) (by omega) (Int.le_refl _)
      have d0 := divLo_nonneg (a := 1000000 - cdv (100 * x * sH o i) 1000000) (d := 1000000 + 100 * x) (by omega) (by omega)
      have d2 : divHi (1000000 - 100 * x * sL o i / 1000000) (1000000 + 100 * x) ≤ 1000000 := cdv_le (by omega) (by omega)
      rw [if_neg q, if_pos (show okR _ _ = true ∧ okR _ _ = true ∧ _ ∧ _ from ⟨okR_of (by omega) (by omega) (by omega), okR_of (Int.le_refl _) (by omega) (by omega), by omega, by omega⟩), if_pos (show okR (divLo _ _) (divHi _ _) = true from okR_of d1 (by omega) (by omega)), if_pos (by rfl)]
      have st : stepR x (sL o i) (sH o i) = if divLo (1000000 - cdv (100 * x * sH o i) 1000000) (1000000 + 100 * x) ≤ 0 then none else some (divLo (1000000 - cdv (100 * x * sH o i) 1000000) (1000000 + 100 * x), divHi (1000000 - 100 * x * sL o i / 1000000) (1000000 + 100 * x)) := by
        unfold stepR
        rw [if_neg q]
      generalize hlo : divLo (1000000 - cdv (100 * x * sH o i) 1000000) (1000000 + 100 * x) = lo at *
      generalize hhi : divHi (1000000 - 100 * x * sL o i / 1000000) (1000000 + 100 * x) = hi' at *
      by_cases z : lo ≤ 0
      · rw [if_pos (show (lo, hi', (none : Option Int)).1 ≤ 0 from z)]
        rw [st, if_pos z] at nxt
        rw [dead nxt]
        rfl
      · rw [if_neg (show ¬ (lo, hi', (none : Option Int)).1 ≤ 0 from z), if_pos (by simp [ol]; omega)]
        rw [st, if_neg z, Option.bind_some] at nxt
        have e1 : sL (o ++ [(lo, hi')]) (i + 1) = sL o i + lo := by
          show sL (o ++ [(lo, hi')]) i + _ = _
          rw [sL_app o _ i (by omega), ← ol, getD_last]
        have e2 : sH (o ++ [(lo, hi')]) (i + 1) = sH o i + hi' := by
          show sH (o ++ [(lo, hi')]) i + _ = _
          rw [sH_app o _ i (by omega), ← ol, getD_last]
        have ih := implLoop1 l hr h2 d (i + 1) k _ (by omega) (by omega) nxt
        rw [e1, e2, List.map_append] at ih
        rw [w64 (n := sL o i + lo) (by omega) (by omega), w64 (n := sH o i + hi') (by omega) (by omega), w64 (by omega) (by omega), show (i : Int) + 1 = ((i + 1 : Nat) : Int) by omega]
        exact ih
theorem implLoop0 (l : List Int) (h2 : l.length ≤ 12) : ∀ (d i k : Nat), i + d = l.length → d + l.length + 2 < k → (∀ j, j < i → 0 ≤ l.getD j 0 ∧ l.getD j 0 ≤ 3000) →
    impl_CurveOf.l0 k l l (l.length : Int) (i : Int) = some (if okRates l then outOf (curSt l l.length) else ([], false))
  | 0, i, k, hi, hk, h => by
    obtain ⟨k, rfl⟩ : ∃ m, k = m + 1 := ⟨k - 1, by omega⟩
    simp only [impl_CurveOf.l0]
    have hr : okRates l := fun j hj => h j (by omega)
    rw [if_neg (by omega), if_pos (by omega), if_pos (by omega), if_pos hr]
    exact implLoop1 l hr h2 l.length 0 k [] (by omega) (by omega) rfl
  | d + 1, i, k, hi, hk, h => by
    obtain ⟨k, rfl⟩ : ∃ m, k = m + 1 := ⟨k - 1, by omega⟩
    simp only [impl_CurveOf.l0]
    rw [if_pos (by omega), if_pos (by omega), if_pos (by omega), rd_rates]
    unfold impl_rateValid.f
    rw [within_eq]
    simp only [Option.bind_some]
    by_cases q : 0 ≤ l.getD i 0 ∧ l.getD i 0 ≤ 3000
    · rw [if_pos (decide_eq_true q), w64 (by omega) (by omega), show (i : Int) + 1 = ((i + 1 : Nat) : Int) by omega]
      refine implLoop0 l h2 d (i + 1) k (by omega) (by omega) fun j hj => ?_
      rcases Nat.lt_or_ge j i with g | g
      · exact h j g
      · rw [show j = i by omega]
        exact q
    · rw [if_neg (by simpa using q), if_neg (fun e => q (e i (by omega)))]
theorem impl_cur (k : Nat) (hk : 60 ≤ k) (l : List Int) : impl_CurveOf.f k l = some (curF l) := by
  unfold impl_CurveOf.f
  rw [within_eq]
  simp only [Option.bind_some]
  by_cases q : (1 : Int) ≤ l.length ∧ (l.length : Int) ≤ 12
  · rw [if_pos (decide_eq_true q), show impl_CurveOf.l0 k l l (l.length : Int) 0 = _ from implLoop0 l (by omega) l.length 0 k (by omega) (by omega) (fun j hj => absurd hj (by omega))]
    by_cases r : okRates l
    · rw [if_pos r, curF_yes r (by omega) (by omega)]
    · rw [if_neg r, curF_no (fun e => r e.1)]
  · rw [if_neg (by simpa using q), curF_no (fun e => q (by omega))]
theorem specAll (l : List Int) (h2 : l.length ≤ 12) : ∀ (d i k : Nat), i + d = l.length → d < k → (∀ j, j < i → 0 ≤ l.getD j 0 ∧ l.getD j 0 ≤ 3000) → spec_allIn.l0 k l 0 3000 (i : Int) = some (decide (okRates l))
  | 0, i, k, hi, hk, h => by
    obtain ⟨k, rfl⟩ : ∃ m, k = m + 1 := ⟨k - 1, by omega⟩
    simp only [spec_allIn.l0]
    have hr : okRates l := fun j hj => h j (by omega)
    rw [if_neg (by omega), decide_eq_true hr]
  | d + 1, i, k, hi, hk, h => by
    obtain ⟨k, rfl⟩ : ∃ m, k = m + 1 := ⟨k - 1, by omega⟩
    simp only [spec_allIn.l0]
    rw [if_pos (by omega), if_pos (by omega), rd_rates, inRange_eq]
    simp only [Option.bind_some]
    by_cases q : 0 ≤ l.getD i 0 ∧ l.getD i 0 ≤ 3000
    · rw [if_pos (decide_eq_true q), w64 (by omega) (by omega), show (i : Int) + 1 = ((i + 1 : Nat) : Int) by omega]
      refine specAll l h2 d (i + 1) k (by omega) (by omega) fun j hj => ?_
      rcases Nat.lt_or_ge j i with g | g
      · exact h j g
      · rw [show j = i by omega]
        exact q
    · rw [if_neg (by simpa using q), decide_eq_false (fun e => q (e i (by omega)))]
theorem specLoop (l : List Int) (hr : okRates l) (h2 : l.length ≤ 12) : ∀ (d i k : Nat) (o : List (Int × Int)), i + d = l.length → d < k → curSt l i = some o →
    spec_curve.l0 k l (o.map toS) (sL o i) (sH o i) (i : Int) = some (outOf (curSt l l.length))
  | 0, i, k, o, hi, hk, ho => by
    obtain ⟨k, rfl⟩ : ∃ m, k = m + 1 := ⟨k - 1, by omega⟩
    simp only [spec_curve.l0]
    obtain rfl : i = l.length := by omega
    rw [if_neg (by omega), ho]
    rfl
  | d + 1, i, k, o, hi, hk, ho => by
    obtain ⟨k, rfl⟩ : ∃ m, k = m + 1 := ⟨k - 1, by omega⟩
    simp only [spec_curve.l0]
    obtain ⟨ol, oc⟩ := curSt_ok hr i o (by omega) ho
    have b := sLH_bd oc i (by omega)
    have r := hr i (by omega)
    rw [if_pos (by omega), if_pos (by omega), rd_rates]
    have nxt := curSt_succ l i
    rw [ho, Option.bind_some] at nxt
    have dead : curSt l (i + 1) = none → curSt l l.length = none := fun e => by
      have := curSt_dead e d
      rwa [show i + 1 + d = l.length by omega] at this
    generalize l.getD i 0 = x at *
    have m1 := rate_bd r.1 r.2 (show 0 ≤ sH o i by omega) (by omega)
    have m2 := rate_bd r.1 r.2 (show 0 ≤ sL o i by omega) (by omega)
    have rest := stepR_rest r.1 (show 0 ≤ sL o i by omega) b.2.1
    have c1 := cdv_bd (100 * x * sH o i) 1000000 (by omega)
    have c2 : 0 ≤ cdv (100 * x * sH o i) 1000000 := by omega
    rw [w64 (n := 100 * x) (by omega) (by omega), w64 (n := 100 * x * sH o i) (by omega) (by omega), w64 (n := 100 * x * sL o i) (by omega) (by omega), ceilDiv_is _ _ (by omega) (by omega) (by omega), floorDiv_is _ _ (by omega) (by omega) (by omega)]
    simp only [Option.bind_some]
    rw [w64 (n := 1000000 - cdv (100 * x * sH o i) 1000000) (by omega) (by omega), w64 (n := 1000000 - 100 * x * sL o i / 1000000) (by omega) (by omega)]
    by_cases q : 1000000 - cdv (100 * x * sH o i) 1000000 ≤ 0
    · rw [if_pos q]
      have : stepR x (sL o i) (sH o i) = none := by unfold stepR; rw [if_pos q]
      rw [this] at nxt
      rw [dead nxt]
      rfl
    · have d1 := divLo_le_Hi (a := 1000000 - cdv (100 * x * sH o i) 1000000) (b := 1000000 - 100 * x * sL o i / 1000000) (c := 1000000 + 100 * x) (d := 1000000 + 100 * x) (by omega) (by omega) (by omega) (Int.le_refl _)
      have d0 := divLo_nonneg (a := 1000000 - cdv (100 * x * sH o i) 1000000) (d := 1000000 + 100 * x) (by omega) (by omega)
      have d2 : divHi (1000000 - 100 * x * sL o i / 1000000) (1000000 + 100 * x) ≤ 1000000 := cdv_le (by omega) (by omega)
      rw [if_neg q]
      unfold spec_growth.f
      simp only [Option.bind_some]
      rw [w64 (n := 1000000 + 100 * x) (by omega) (by omega), spec_divRange_is _ _ _ _ (okR_of (by omega) (by omega) (by omega)) (okR_of (Int.le_refl _) (by omega) (by omega)) (by omega)]
      simp only [Option.bind_some]
      have st : stepR x (sL o i) (sH o i) = if divLo (1000000 - cdv (100 * x * sH o i) 1000000) (1000000 + 100 * x) ≤ 0 then none else some (divLo (1000000 - cdv (100 * x * sH o i) 1000000) (1000000 + 100 * x), divHi (1000000 - 100 * x * sL o i / 1000000) (1000000 + 100 * x)) := by
        unfold stepR
        rw [if_neg q]
      generalize hlo : divLo (1000000 - cdv (100 * x * sH o i) 1000000) (1000000 + 100 * x) = lo at *
      generalize hhi : divHi (1000000 - 100 * x * sL o i / 1000000) (1000000 + 100 * x) = hi' at *
      by_cases z : lo ≤ 0
      · rw [if_pos z]
        rw [st, if_pos z] at nxt
        rw [dead nxt]
        rfl
      · rw [if_neg z, if_pos (by simp [ol]; omega)]
        rw [st, if_neg z, Option.bind_some] at nxt
        have e1 : sL (o ++ [(lo, hi')]) (i + 1) = sL o i + lo := by
          show sL (o ++ [(lo, hi')]) i + _ = _
          rw [sL_app o _ i (by omega), ← ol, getD_last]
        have e2 : sH (o ++ [(lo, hi')]) (i + 1) = sH o i + hi' := by
          show sH (o ++ [(lo, hi')]) i + _ = _
          rw [sH_app o _ i (by omega), ← ol, getD_last]
        have ih := specLoop l hr h2 d (i + 1) k _ (by omega) (by omega) nxt
        rw [e1, e2, List.map_append] at ih
        rw [w64 (n := sL o i + lo) (by omega) (by omega), w64 (n := sH o i + hi') (by omega) (by omega), w64 (by omega) (by omega), show (i : Int) + 1 = ((i + 1 : Nat) : Int) by omega]
        exact ih
theorem spec_cur (k : Nat) (hk : 60 ≤ k) (l : List Int) : spec_CurveOf.f k l = some (curF l) := by
  unfold spec_CurveOf.f spec_validRates.f
  rw [inRange_eq]
  simp only [Option.bind_some]
  by_cases q : (1 : Int) ≤ l.length ∧ (l.length : Int) ≤ 12
  · rw [if_pos (decide_eq_true q)]
    unfold spec_allIn.f
    rw [show spec_allIn.l0 k l 0 3000 0 = _ from specAll l (by omega) l.length 0 k (by omega) (by omega) (fun j hj => absurd hj (by omega))]
    simp only [Option.bind_some]
    by_cases r : okRates l
    · rw [if_pos (decide_eq_true r), curF_yes r (by omega) (by omega)]
      unfold spec_curve.f
      have := specLoop l r (by omega) l.length 0 k [] (by omega) (by omega) rfl
      exact congrArg (fun x : Option (List SR × Bool) => x.bind fun bt => some (bt.1, bt.2)) this
    · rw [if_neg (by simpa using r), curF_no (fun e => r e.1)]
  · rw [if_neg (by simpa using q)]
    simp only [Option.bind_some]
    rw [if_neg (by simp), curF_no (fun e => q (by omega))]
end Go.Proofs.YtbofmoelmhbpoaaDoor.Rng

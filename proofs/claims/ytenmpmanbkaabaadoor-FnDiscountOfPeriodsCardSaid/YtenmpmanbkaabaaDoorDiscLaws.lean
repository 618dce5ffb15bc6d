/-
  DiscountOf (printed Lean functions of the program and of the reference): the value of money that is paid later. Conditions: they stand in each theorem.
-/
import Derived.Test.YtenmpmanbkaabaaDoorQx2
import Derived.Test.YtenmpmanbkaabaaDoorQx3
import Derived.Test.YtenmpmanbkaabaaDoorQx4
import Derived.Test.YtenmpmanbkaabaaDoorRngMul
import Derived.Test.YtenmpmanbkaabaaDoorRngDiv
import Derived.Test.YtenmpmanbkaabaaDoorPow
namespace Go.Proofs.YtenmpmanbkaabaaDoor.Rng
open Go.RowKit Go.Proofs.YtenmpmanbkaabaaDoor.Q Go.Proofs.YtenmpmanbkaabaaDoorW.PrintWords Go.Proofs.YtenmpmanbkaabaaDoorW.PrintLast

theorem growth_bd {y left days : Int} (hy0 : 0 ≤ y) (hy : y ≤ 100000) (h0 : 0 ≤ left) (h1 : left ≤ days) (hd : days ≤ 4000) : 0 ≤ y * left ∧ y * left ≤ 400000000 := by
  have e0 := Int.mul_nonneg hy0 h0
  have e1 := Int.mul_le_mul hy (show left ≤ 4000 by omega) h0 (show (0 : Int) ≤ 100000 by omega)
  omega
theorem impl_growth_is {y left days : Int} (hy0 : 0 ≤ y) (hy : y ≤ 100000) (h0 : 0 ≤ left) (h1 : left ≤ days) (hd0 : 0 < days) (hd : days ≤ 4000) : impl_growth.f y left days = some (part y left days) := by
  have b := growth_bd hy0 hy h0 h1 hd
  have p := part_bd hy0 hy h0 h1 hd0
  have p1 : (part y left days).1 = 1000000 + y * left / days := rfl
  have p2 : (part y left days).2 = 1000000 + cdv (y * left) days := rfl
  rw [p1, p2] at p
  unfold impl_growth.f
  rw [w64 (n := y * left) (by omega) (by omega), floor_is _ _ hd0 (by omega) (by omega), ceil_is _ _ hd0 (by omega) (by omega)]
  simp only [Option.bind_some]
  rw [w64 (by omega) (by omega), w64 (by omega) (by omega)]
  rfl
theorem implDisc {y L H : Int} (hy0 : 0 ≤ y) (hy : y ≤ 100000) (hl : 1000000 ≤ L) (hlh : L ≤ H) (hh : H ≤ 1100000) (N : Nat) (hN : N ≤ 40) : ∀ (d i k : Nat), i + d = N → d < k →
    impl_DiscountOf.l0 k y (N : Int) (i : Int) (grow y L H i).1 (grow y L H i).2 = some (divLo 1000000 (grow y L H N).2, divHi 1000000 (grow y L H N).1)
  | 0, i, k, hi, hk => by
    obtain ⟨k, rfl⟩ : ∃ m, k = m + 1 := ⟨k - 1, by omega⟩
    simp only [impl_DiscountOf.l0]
    obtain rfl : i = N := by omega
    have g := grow_bd hy0 hy hl hlh hh i
    have gb := growB_le (show i ≤ 41 by omega)
    have e0 := divLo_le_Hi (a := 1000000) (b := 1000000) (c := (grow y L H i).1) (d := (grow y L H i).2) (by omega) (Int.le_refl _) (by omega) g.2.1
    have e1 : 0 ≤ divLo 1000000 (grow y L H i).2 := divLo_nonneg (by omega) (by omega)
    have e2 : divHi 1000000 (grow y L H i).1 ≤ 1000000 := cdv_le (by omega) (by omega)
    rw [if_neg (by omega)]
    unfold impl_exactly.f
    simp only [Option.bind_some]
    rw [through_is, if_pos ⟨by decide, okR_of g.2.1 (by omega) (by omega), by omega, by omega⟩, if_pos (okR_of e0 (by omega) (by omega))]
    rfl
  | d + 1, i, k, hi, hk => by
    obtain ⟨k, rfl⟩ : ∃ m, k = m + 1 := ⟨k - 1, by omega⟩
    simp only [impl_DiscountOf.l0]
    have g := grow_bd hy0 hy hl hlh hh i
    have gb := growB_le (show i ≤ 41 by omega)
    have g1 := grow_bd hy0 hy hl hlh hh (i + 1)
    have gb1 := growB_le (show i + 1 ≤ 41 by omega)
    have lo : mulLo (grow y L H i).1 (grow y L H i).2 (1000000 + y) (1000000 + y) = (grow y L H (i + 1)).1 := mulLo_pos (by omega) g.2.1 (by omega) (Int.le_refl _)
    have hi' : mulHi (grow y L H i).1 (grow y L H i).2 (1000000 + y) (1000000 + y) = (grow y L H (i + 1)).2 := mulHi_pos (by omega) g.2.1 (by omega) (Int.le_refl _)
    rw [if_pos (by omega), w64 (n := 1000000 + y) (by omega) (by omega)]
    unfold impl_exactly.f
    simp only [Option.bind_some]
    rw [times_is, if_pos ⟨okR_of g.2.1 (by omega) (by omega), okR_of (Int.le_refl _) (by omega) (by omega)⟩, lo, hi', if_pos (okR_of g1.2.1 (by omega) (by omega))]
    simp only [Option.bind_some]
    rw [if_pos (by rfl), w64 (by omega) (by omega), show (i : Int) + 1 = ((i + 1 : Nat) : Int) by omega]
    exact implDisc hy0 hy hl hlh hh N hN d (i + 1) k (by omega) (by omega)
theorem specDisc {y L H : Int} (hy0 : 0 ≤ y) (hy : y ≤ 100000) (hl : 1000000 ≤ L) (hlh : L ≤ H) (hh : H ≤ 1100000) (N : Nat) (hN : N ≤ 40) : ∀ (d i k : Nat), i + d = N → d + 12 < k →
    spec_discount.l0 k y (N : Int) (i : Int) (grow y L H i).1 (grow y L H i).2 = some (divLo 1000000 (grow y L H N).2, divHi 1000000 (grow y L H N).1)
  | 0, i, k, hi, hk => by
    obtain ⟨k, rfl⟩ : ∃ m, k = m + 1 := ⟨k - 1, by omega⟩
    simp only [spec_discount.l0]
    obtain rfl : i = N := by omega
    have g := grow_bd hy0 hy hl hlh hh i
    have gb := growB_le (show i ≤ 41 by omega)
    rw [if_neg (by omega)]
    unfold spec_exact.f
    rw [show wrap64 (1 * 1000000) = 1000000 from by decide +kernel]
    simp only [Option.bind_some]
    rw [spec_divRange_is _ _ _ _ (by decide) (okR_of g.2.1 (by omega) (by omega)) (by omega)]
    rfl
  | d + 1, i, k, hi, hk => by
    obtain ⟨k, rfl⟩ : ∃ m, k = m + 1 := ⟨k - 1, by omega⟩
    simp only [spec_discount.l0]
    have g := grow_bd hy0 hy hl hlh hh i
    have gb := growB_le (show i ≤ 41 by omega)
    have lo : mulLo (grow y L H i).1 (grow y L H i).2 (1000000 + y) (1000000 + y) = (grow y L H (i + 1)).1 := mulLo_pos (by omega) g.2.1 (by omega) (Int.le_refl _)
    have hi' : mulHi (grow y L H i).1 (grow y L H i).2 (1000000 + y) (1000000 + y) = (grow y L H (i + 1)).2 := mulHi_pos (by omega) g.2.1 (by omega) (Int.le_refl _)
    rw [if_pos (by omega)]
    unfold spec_growth.f
    simp only [Option.bind_some]
    rw [w64 (n := 1000000 + y) (by omega) (by omega), spec_mulRange_is k (by omega) _ _ _ _ (okR_of g.2.1 (by omega) (by omega)) (okR_of (Int.le_refl _) (by omega) (by omega)), lo, hi']
    simp only [Option.bind_some]
    rw [w64 (by omega) (by omega), show (i : Int) + 1 = ((i + 1 : Nat) : Int) by omega]
    exact specDisc hy0 hy hl hlh hh N hN d (i + 1) k (by omega) (by omega)
/-- What the arguments must be. -/
def DiscIn (y passed days per : Int) : Prop := (0 ≤ y ∧ y ≤ 100000) ∧ (1 ≤ days ∧ days ≤ 4000) ∧ (0 ≤ passed ∧ passed ≤ days) ∧ (0 ≤ per ∧ per ≤ 40)
open Classical in
noncomputable def discF (y passed days per : Int) : Int × Int := if DiscIn y passed days per then disc y (days - passed) days per.toNat else (0, 0)
theorem discF_yes {y passed days per : Int} (h : DiscIn y passed days per) : discF y passed days per = disc y (days - passed) days per.toNat := if_pos h
theorem discF_no {y passed days per : Int} (h : ¬ DiscIn y passed days per) : discF y passed days per = (0, 0) := if_neg h
theorem impl_disc (k : Nat) (hk : 60 ≤ k) (y passed days per : Int) : impl_DiscountOf.f k y passed days per = some (discF y passed days per) := by
  obtain ⟨k, rfl⟩ : ∃ m, k = m + 1 := ⟨k - 1, by omega⟩
  unfold impl_DiscountOf.f impl_yieldValid.f
  rw [within_eq]
  simp only [Option.bind_some, impl_DiscountOf.j0]
  by_cases c0 : 0 ≤ y ∧ y ≤ 100000
  · rw [if_pos (decide_eq_true c0), within_eq]
    simp only [Option.bind_some]
    by_cases c1 : 1 ≤ days ∧ days ≤ 4000
    · rw [if_pos (decide_eq_true c1), within_eq]
      simp only [Option.bind_some]
      by_cases c2 : 0 ≤ passed ∧ passed ≤ days
      · rw [if_pos (decide_eq_true c2), within_eq]
        simp only [Option.bind_some]
        by_cases c3 : 0 ≤ per ∧ per ≤ 40
        · rw [if_neg (by simp [c3]), discF_yes ⟨c0, c1, c2, c3⟩, w64 (by omega) (by omega), impl_growth_is c0.1 c0.2 (by omega) (by omega) (by omega) c1.2]
          simp only [Option.bind_some]
          have p := part_bd c0.1 c0.2 (show 0 ≤ days - passed by omega) (show days - passed ≤ days by omega) (by omega)
          have := implDisc c0.1 c0.2 p.1 p.2.1 (by omega) per.toNat (by omega) per.toNat 0 k (by omega) (by omega)
          rw [show ((per.toNat : Nat) : Int) = per by omega] at this
          exact this
        · rw [if_pos (by simp; omega), discF_no (fun e => c3 e.2.2.2)]
      · rw [if_neg (by simpa using c2), if_pos trivial, discF_no (fun e => c2 e.2.2.1)]
    · rw [if_neg (by simpa using c1), if_pos trivial, discF_no (fun e => c1 e.2.1)]
  · rw [if_neg (by simpa using c0), if_pos trivial, discF_no (fun e => c0 e.1)]
theorem spec_disc (k : Nat) (hk : 60 ≤ k) (y passed days per : Int) : spec_DiscountOf.f k y passed days per = some (discF y passed days per) := by
  unfold spec_DiscountOf.f spec_validYield.f
  rw [inRange_eq]
  simp only [Option.bind_some]
  by_cases c0 : 0 ≤ y ∧ y ≤ 100000
  · rw [if_pos (decide_eq_true c0), inRange_eq]
    simp only [Option.bind_some]
    by_cases c1 : 1 ≤ days ∧ days ≤ 4000
    · rw [if_pos (decide_eq_true c1), inRange_eq]
      simp only [Option.bind_some]
      by_cases c2 : 0 ≤ passed ∧ passed ≤ days
      · rw [if_pos (decide_eq_true c2), inRange_eq]
        simp only [Option.bind_some]
        by_cases c3 : 0 ≤ per ∧ per ≤ 40
        · have b := growth_bd c0.1 c0.2 (show 0 ≤ days - passed by omega) (show days - passed ≤ days by omega) c1.2
          have p := part_bd c0.1 c0.2 (show 0 ≤ days - passed by omega) (show days - passed ≤ days by omega) (by omega)
          have p1 : (part y (days - passed) days).1 = 1000000 + y * (days - passed) / days := rfl
          have p2 : (part y (days - passed) days).2 = 1000000 + cdv (y * (days - passed)) days := rfl
          have := specDisc c0.1 c0.2 p.1 p.2.1 (by omega) per.toNat (by omega) per.toNat 0 k (by omega) (by omega)
          rw [show ((per.toNat : Nat) : Int) = per by omega] at this
          rw [if_pos (decide_eq_true c3), discF_yes ⟨c0, c1, c2, c3⟩]
          unfold spec_discount.f
          rw [w64 (n := days - passed) (by omega) (by omega), w64 (n := y * (days - passed)) (by omega) (by omega), floorDiv_is _ _ (by omega) (by omega) (by omega), ceilDiv_is _ _ (by omega) (by omega) (by omega)]
          simp only [Option.bind_some]
          rw [p1, p2] at p
          rw [w64 (by omega) (by omega), w64 (by omega) (by omega)]
          exact congrArg (fun x : Option (Int × Int) => x.bind fun bt => some (bt.1, bt.2)) this
        · rw [if_neg (by simpa using c3), discF_no (fun e => c3 e.2.2.2)]
      · rw [if_neg (by simpa using c2), discF_no (fun e => c2 e.2.2.1)]
    · rw [if_neg (by simpa using c1), discF_no (fun e => c1 e.2.1)]
  · rw [if_neg (by simpa using c0), discF_no (fun e => c0 e.1)]
end Go.Proofs.YtenmpmanbkaabaaDoor.Rng

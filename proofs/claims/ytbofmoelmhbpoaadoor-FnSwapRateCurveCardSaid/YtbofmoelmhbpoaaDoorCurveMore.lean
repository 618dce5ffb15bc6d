/-
  Bonds, forward rates, values between years and swap rates of a curve, as whole numbers, without Go. Conditions: they stand in each theorem.
-/
import Derived.Test.YtbofmoelmhbpoaaDoorCurve
namespace Go.Proofs.YtbofmoelmhbpoaaDoor.Rng
open Go.RowKit
set_option linter.unusedVariables false

/-- A curve. -/
def okCurve (c : List (Int × Int)) : Prop := okCs c ∧ 1 ≤ c.length ∧ c.length ≤ 12
theorem div_within {a b c d : Int} (ha : 0 ≤ a) (hab : a ≤ b) (hc : 0 < c) (hcd : c ≤ d) : mulLo (divLo a d) (divHi b c) c d ≤ a ∧ b ≤ mulHi (divLo a d) (divHi b c) c d := by
  have e0 : 0 ≤ divLo a d := divLo_nonneg ha (by omega)
  have e1 := divLo_le_Hi ha hab hc hcd
  have q1 := (dv (a * 1000000) d (by omega)).1
  have q2 := (cdv_bd (b * 1000000) c (by omega)).1
  have r1 : d * divLo a d ≤ a * 1000000 := q1
  have r2 : b * 1000000 ≤ c * divHi b c := q2
  rw [mulLo_pos e0 e1 (by omega) hcd, mulHi_pos e0 e1 (by omega) hcd]
  have m1 := Int.mul_le_mul_of_nonneg_left hcd e0
  have m2 := Int.mul_le_mul_of_nonneg_left hcd (show (0 : Int) ≤ divHi b c by omega)
  rw [Int.mul_comm d] at r1
  rw [Int.mul_comm c] at r2
  exact ⟨dv_le (by omega) (by omega), le_cdv (by omega) (by omega)⟩

/-- The value of 1 after so many years. -/
def after (c : List (Int × Int)) (k : Nat) : Int × Int := if k = 0 then (1000000, 1000000) else c.getD (k - 1) (0, 0)
theorem after_zero (c : List (Int × Int)) : after c 0 = (1000000, 1000000) := rfl
theorem after_succ (c : List (Int × Int)) (k : Nat) : after c (k + 1) = c.getD k (0, 0) := rfl
theorem after_ok {c : List (Int × Int)} (h : okCs c) {k : Nat} (hk : k ≤ c.length) : okC (after c k) := by
  match k, hk with
  | 0, _ =>
    have : okC ((1000000, 1000000) : Int × Int) := ⟨by decide, by decide, by decide⟩
    exact this
  | k + 1, hk => exact h k (by omega)

/-- A bond that pays a rate. -/
def parV (c : List (Int × Int)) (r : Int) (n : Nat) : Int × Int :=
  (100 * r * sL c n / 1000000 + (after c n).1, cdv (100 * r * sH c n) 1000000 + (after c n).2)
theorem parV_bd {c : List (Int × Int)} (h : okCurve c) {r : Int} (h0 : 0 ≤ r) (h1 : r ≤ 3000) {n : Nat} (hn : n ≤ c.length) :
    (0 ≤ 100 * r * sL c n ∧ 100 * r * sL c n ≤ 4000000000000) ∧ (0 ≤ 100 * r * sH c n ∧ 100 * r * sH c n ≤ 4000000000000) := by
  have b := sLH_bd h.1 n hn
  have l := h.2.2
  have e0 := Int.mul_nonneg (show 0 ≤ 100 * r by omega) (show 0 ≤ sL c n by omega)
  have e1 := Int.mul_nonneg (show 0 ≤ 100 * r by omega) (show 0 ≤ sH c n by omega)
  have e2 : 100 * r * sL c n ≤ 300000 * 12000000 := Int.mul_le_mul (by omega) (by omega) (by omega) (by omega)
  have e3 : 100 * r * sH c n ≤ 300000 * 12000000 := Int.mul_le_mul (by omega) (by omega) (by omega) (by omega)
  omega
theorem parV_zero (c : List (Int × Int)) (n : Nat) : parV c 0 n = after c n := by
  unfold parV
  rw [show (100 : Int) * 0 = 0 from rfl, Int.zero_mul, Int.zero_mul]
  have e1 : (0 : Int) / 1000000 = 0 := by decide
  have e2 : cdv 0 1000000 = 0 := by decide
  rw [e1, e2, Int.zero_add, Int.zero_add]
theorem parV_mono {c : List (Int × Int)} (h : okCurve c) {r r' : Int} (h0 : 0 ≤ r) (hr : r ≤ r') {n : Nat} (hn : n ≤ c.length) : (parV c r n).1 ≤ (parV c r' n).1 ∧ (parV c r n).2 ≤ (parV c r' n).2 := by
  have b := sLH_bd h.1 n hn
  have e1 : 100 * r * sL c n ≤ 100 * r' * sL c n := Int.mul_le_mul_of_nonneg_right (by omega) (by omega)
  have e2 : 100 * r * sH c n ≤ 100 * r' * sH c n := Int.mul_le_mul_of_nonneg_right (by omega) (by omega)
  have f1 := dv_mono (b := 1000000) (by omega) e1
  have f2 := cdv_mono (b := 1000000) (by omega) e2
  show 100 * r * sL c n / 1000000 + _ ≤ 100 * r' * sL c n / 1000000 + _ ∧ cdv (100 * r * sH c n) 1000000 + _ ≤ cdv (100 * r' * sH c n) 1000000 + _
  omega
theorem parV_le {c : List (Int × Int)} (h : okCurve c) {r : Int} (h0 : 0 ≤ r) {n : Nat} (hn : n ≤ c.length) : (parV c r n).1 ≤ (parV c r n).2 := by
  have b := sLH_bd h.1 n hn
  have k := after_ok h.1 hn
  have e := stepR_rest (r := r) h0 (show 0 ≤ sL c n by omega) b.2.1
  have := k.2.1
  show 100 * r * sL c n / 1000000 + _ ≤ cdv (100 * r * sH c n) 1000000 + _
  omega

/-- The rate from a year to the next one. -/
def fwd (c : List (Int × Int)) (k : Nat) : Int × Int := (divLo (after c k).1 (c.getD k (0, 0)).2 - 1000000, divHi (after c k).2 (c.getD k (0, 0)).1 - 1000000)
theorem fwd_bd {c : List (Int × Int)} (h : okCurve c) {k : Nat} (hk : k < c.length) :
    okC (after c k) ∧ okC (c.getD k (0, 0)) ∧ 0 ≤ divLo (after c k).1 (c.getD k (0, 0)).2 ∧ divLo (after c k).1 (c.getD k (0, 0)).2 ≤ divHi (after c k).2 (c.getD k (0, 0)).1 ∧ divHi (after c k).2 (c.getD k (0, 0)).1 ≤ 1000000000000 := by
  have a := after_ok h.1 (show k ≤ c.length by omega)
  have b := h.1 k hk
  obtain ⟨a1, a2, a3⟩ := a
  obtain ⟨b1, b2, b3⟩ := b
  refine ⟨⟨a1, a2, a3⟩, ⟨b1, b2, b3⟩, divLo_nonneg (by omega) (by omega), divLo_le_Hi (by omega) a2 b1 b2, cdv_le b1 ?_⟩
  generalize (c.getD k (0, 0)).1 = x at *
  have := Int.mul_le_mul_of_nonneg_right (show 1 ≤ x by omega) (show (0 : Int) ≤ 1000000000000 by omega)
  omega
theorem fwd_sure {c : List (Int × Int)} (h : okCurve c) {k : Nat} (hk : k < c.length) (hs : (c.getD k (0, 0)).2 ≤ (after c k).1) : 0 ≤ (fwd c k).1 := by
  have b := h.1 k hk
  obtain ⟨b1, b2, b3⟩ := b
  have : 1000000 ≤ divLo (after c k).1 (c.getD k (0, 0)).2 := le_dv (by omega) (by omega)
  show 0 ≤ divLo (after c k).1 (c.getD k (0, 0)).2 - 1000000
  omega

/-- The value of 1 after some months. -/
def valV (c : List (Int × Int)) (y : Nat) (r : Int) : Int × Int :=
  if r = 0 then after c y else (((12 - r) * (after c y).1 + r * (after c (y + 1)).1) / 12, cdv ((12 - r) * (after c y).2 + r * (after c (y + 1)).2) 12)
theorem valV_bd {a b : Int} {r : Int} (h0 : 0 ≤ r) (h1 : r ≤ 12) (ha0 : 0 ≤ a) (ha : a ≤ 1000000) (hb0 : 0 ≤ b) (hb : b ≤ 1000000) : 0 ≤ (12 - r) * a ∧ (12 - r) * a ≤ 12000000 ∧ 0 ≤ r * b ∧ r * b ≤ 12000000 := by
  have e0 := Int.mul_nonneg (show 0 ≤ 12 - r by omega) ha0
  have e1 := Int.mul_nonneg h0 hb0
  have e2 : (12 - r) * a ≤ 12 * 1000000 := Int.mul_le_mul (by omega) ha ha0 (by omega)
  have e3 : r * b ≤ 12 * 1000000 := Int.mul_le_mul h1 hb hb0 (by omega)
  omega
theorem mid_low {a b m r : Int} (h0 : 0 ≤ r) (h1 : r ≤ 12) (ha : m ≤ a) (hb : m ≤ b) : m ≤ ((12 - r) * a + r * b) / 12 := by
  have e1 := Int.mul_le_mul_of_nonneg_left ha (show 0 ≤ 12 - r by omega)
  have e2 := Int.mul_le_mul_of_nonneg_left hb h0
  have e3 : (12 - r) * m + r * m = 12 * m := by rw [← Int.add_mul]; congr 1; omega
  exact le_dv (by omega) (by omega)
theorem mid_high {a b m r : Int} (h0 : 0 ≤ r) (h1 : r ≤ 12) (ha : a ≤ m) (hb : b ≤ m) : cdv ((12 - r) * a + r * b) 12 ≤ m := by
  have e1 := Int.mul_le_mul_of_nonneg_left ha (show 0 ≤ 12 - r by omega)
  have e2 := Int.mul_le_mul_of_nonneg_left hb h0
  have e3 : (12 - r) * m + r * m = 12 * m := by rw [← Int.add_mul]; congr 1; omega
  exact cdv_le (by omega) (by omega)
theorem mid_le {a b a' b' r : Int} (h0 : 0 ≤ r) (h1 : r ≤ 12) (ha : a ≤ a') (hb : b ≤ b') : ((12 - r) * a + r * b) / 12 ≤ cdv ((12 - r) * a' + r * b') 12 := by
  have e1 := Int.mul_le_mul_of_nonneg_left ha (show 0 ≤ 12 - r by omega)
  have e2 := Int.mul_le_mul_of_nonneg_left hb h0
  exact Int.le_trans (dv_mono (by omega) (show (12 - r) * a + r * b ≤ (12 - r) * a' + r * b' by omega)) (dv_le_cdv _ _ (by omega))

/-- The bounds of the rate that a bond with the value 1 pays. -/
def swapV (c : List (Int × Int)) (n : Nat) : Int × Int := (divLo (1000000 - (after c n).2) (sH c n), divHi (1000000 - (after c n).1) (sL c n))
theorem swapV_bd {c : List (Int × Int)} (h : okCurve c) {n : Nat} (h1 : 1 ≤ n) (hn : n ≤ c.length) :
    okC (after c n) ∧ okR (1000000 - (after c n).2) (1000000 - (after c n).1) = true ∧ okR (sL c n) (sH c n) = true ∧ 0 ≤ 1000000 - (after c n).2 ∧ 0 < sL c n ∧ sL c n ≤ sH c n := by
  have b := sLH_bd h.1 n hn
  have k := after_ok h.1 hn
  have l := h.2.2
  obtain ⟨k1, k2, k3⟩ := k
  exact ⟨⟨k1, k2, k3⟩, okR_of (by omega) (by omega) (by omega), okR_of b.2.1 (by omega) (by omega), by omega, by omega, b.2.1⟩
theorem swapV_one {c : List (Int × Int)} (h : okCurve c) {n : Nat} (h1 : 1 ≤ n) (hn : n ≤ c.length) :
    mulLo (swapV c n).1 (swapV c n).2 (sL c n) (sH c n) + (after c n).1 ≤ 1000000 ∧ 1000000 ≤ mulHi (swapV c n).1 (swapV c n).2 (sL c n) (sH c n) + (after c n).2 := by
  obtain ⟨⟨k1, k2, k3⟩, _, _, p, q, r⟩ := swapV_bd h h1 hn
  have := div_within (a := 1000000 - (after c n).2) (b := 1000000 - (after c n).1) p (by omega) q r
  show mulLo (divLo _ _) (divHi _ _) _ _ + _ ≤ _ ∧ _ ≤ mulHi (divLo _ _) (divHi _ _) _ _ + _
  omega
theorem sL_ge_first {c : List (Int × Int)} (h : okCs c) : ∀ n, 1 ≤ n → n ≤ c.length → (c.getD 0 (0, 0)).1 ≤ sL c n
  | 0, h1, _ => absurd h1 (by omega)
  | 1, _, _ => by
    show (c.getD 0 (0, 0)).1 ≤ sL c 0 + (c.getD 0 (0, 0)).1
    rw [show sL c 0 = 0 from rfl]
    omega
  | n + 2, _, hn => by
    have := sL_ge_first h (n + 1) (by omega) (by omega)
    obtain ⟨k1, _, _⟩ := h (n + 1) (by omega)
    show _ ≤ sL c (n + 1) + _
    omega
/-- Swap rates of a curve that rates imply: valid, and the rate lies within. -/
theorem swap_curve {rates : List Int} {c : List (Int × Int)} (hr : okRates rates) (hl : 1 ≤ rates.length) (hl2 : rates.length ≤ 12) (hc : curSt rates rates.length = some c) {i : Nat} (hi : i < rates.length) :
    okCurve c ∧ c.length = rates.length ∧ okR (swapV c (i + 1)).1 (swapV c (i + 1)).2 = true ∧ (swapV c (i + 1)).1 ≤ 100 * rates.getD i 0 ∧ 100 * rates.getD i 0 ≤ (swapV c (i + 1)).2 := by
  obtain ⟨cl, cs⟩ := curSt_ok hr rates.length c (Nat.le_refl _) hc
  have hk : okCurve c := ⟨cs, by omega, by omega⟩
  obtain ⟨k, _, _, p, q, r⟩ := swapV_bd hk (show 1 ≤ i + 1 by omega) (show i + 1 ≤ c.length by omega)
  have b := sLH_bd cs i (by omega)
  have ri := hr i hi
  have st := (curSt_at hr rates.length c (Nat.le_refl _) hc i hi).2
  obtain ⟨s1, s2⟩ := stepR_swap ri.1 ri.2 (by omega) b.2.1 st
  have r0 := hr 0 (by omega)
  have st0 := (curSt_at hr rates.length c (Nat.le_refl _) hc 0 (by omega)).2
  rw [show sL c 0 = 0 from rfl, show sH c 0 = 0 from rfl, stepR_first r0.1 r0.2] at st0
  have e0 : divLo 1000000 (1000000 + 100 * rates.getD 0 0) = (c.getD 0 (0, 0)).1 := by rw [← Option.some.inj st0]
  have e1 : 700000 ≤ divLo 1000000 (1000000 + 100 * rates.getD 0 0) := le_dv (by omega) (by omega)
  have e2 := sL_ge_first cs (i + 1) (by omega) (by omega)
  have v1 : (swapV c (i + 1)).1 = divLo (1000000 - (c.getD i (0, 0)).2) (sH c i + (c.getD i (0, 0)).2) := rfl
  have v2 : (swapV c (i + 1)).2 = divHi (1000000 - (c.getD i (0, 0)).1) (sL c i + (c.getD i (0, 0)).1) := rfl
  have a1 : after c (i + 1) = c.getD i (0, 0) := rfl
  have t : sL c (i + 1) = sL c i + (c.getD i (0, 0)).1 := rfl
  have t2 : sH c (i + 1) = sH c i + (c.getD i (0, 0)).2 := rfl
  rw [a1] at p k
  obtain ⟨k1, k2, k3⟩ := k
  rw [v1, v2]
  refine ⟨hk, cl, okR_of (Int.le_trans s1 s2) ?_ ?_, s1, s2⟩
  · have := divLo_nonneg (a := 1000000 - (c.getD i (0, 0)).2) (d := sH c i + (c.getD i (0, 0)).2) p (by omega)
    omega
  · refine Int.le_trans (cdv_le (q := 2000000) (by omega) ?_) (by omega)
    omega
/-- The bond with the curve's own rate is worth 1. -/
theorem par_curve {rates : List Int} {c : List (Int × Int)} (hr : okRates rates) (hl : 1 ≤ rates.length) (hl2 : rates.length ≤ 12) (hc : curSt rates rates.length = some c) {i : Nat} (hi : i < rates.length) :
    (parV c (rates.getD i 0) (i + 1)).1 ≤ 1000000 ∧ 1000000 ≤ (parV c (rates.getD i 0) (i + 1)).2 := by
  obtain ⟨cl, cs⟩ := curSt_ok hr rates.length c (Nat.le_refl _) hc
  have b := sLH_bd cs i (by omega)
  have ri := hr i hi
  exact stepR_par ri.1 ri.2 (by omega) b.2.1 (curSt_at hr rates.length c (Nat.le_refl _) hc i hi).2
end Go.Proofs.YtbofmoelmhbpoaaDoor.Rng

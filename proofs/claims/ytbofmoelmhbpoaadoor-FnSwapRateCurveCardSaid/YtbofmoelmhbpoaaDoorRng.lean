/-
  Ranges as pairs of whole numbers, without Go: validity, sums, products, quotients, and rounding by a positive divisor. Conditions: they stand in each theorem.
-/
import Derived.RowKit
namespace Go.Proofs.YtbofmoelmhbpoaaDoor.Rng
open Go.RowKit
set_option linter.unusedVariables false

theorem w64 {n : Int} (h0 : -9223372036854775808 ≤ n) (h1 : n ≤ 9223372036854775807) : wrap64 n = n := by unfold wrap64; omega

/-- Go's division with a correction is the division rounded down. -/
theorem fl_eq (n b : Int) (hb : 0 < b) (h0 : -9223372036854775807 ≤ n) (h1 : n ≤ 9223372036854775807) :
    (if b = 0 then none else if Int.tmod n b < 0 then some (wrap64 (wrap64 (Int.tdiv n b) - 1)) else some (wrap64 (Int.tdiv n b))) = some (n / b) := by
  rw [if_neg (by omega)]
  rcases Int.le_total 0 n with hn | hn
  · have hq : Int.tdiv n b = n / b := Int.tdiv_eq_ediv_of_nonneg hn
    have hle : n / b ≤ n := Int.ediv_le_self b hn
    have h0' : 0 ≤ n / b := Int.ediv_nonneg hn (by omega)
    rw [if_neg (by have := Int.tmod_nonneg b hn; omega), hq, w64 (by omega) (by omega)]
  · obtain ⟨m, rfl⟩ : ∃ m, n = -m := ⟨-n, by omega⟩
    have hm : 0 ≤ m := by omega
    have hq : Int.tdiv (-m) b = -(m / b) := by rw [Int.neg_tdiv, Int.tdiv_eq_ediv_of_nonneg hm]
    have hr : Int.tmod (-m) b = -(m % b) := by rw [Int.neg_tmod, Int.tmod_eq_emod_of_nonneg hm]
    have hle : m / b ≤ m := Int.ediv_le_self b hm
    have hq0 : 0 ≤ m / b := Int.ediv_nonneg hm (by omega)
    have hr0 : 0 ≤ m % b := Int.emod_nonneg m (by omega)
    have hr1 : m % b < b := Int.emod_lt_of_pos m hb
    have hd : b * (m / b) + m % b = m := by have := Int.emod_add_mul_ediv m b; omega
    rw [hq, hr]
    generalize hqq : m / b = q at *
    generalize hrr : m % b = r at *
    have hu : ∀ t s : Int, b * t + s = -m → 0 ≤ s → s < b → -m / b = t := fun t s e e0 e1 => by
      have : -m = s + t * b := by rw [Int.mul_comm t b]; omega
      rw [this, Int.add_mul_ediv_right _ _ (by omega), Int.ediv_eq_zero_of_lt e0 e1]; omega
    by_cases c : -r < 0
    · rw [if_pos c, w64 (n := -q) (by omega) (by omega), w64 (by omega) (by omega), hu (-q - 1) (b - r) (by rw [Int.mul_sub, Int.mul_neg]; omega) (by omega) (by omega)]
    · rw [if_neg c, w64 (n := -q) (by omega) (by omega), hu (-q) 0 (by rw [Int.mul_neg]; omega) (by omega) (by omega)]

/-- n / b lies between: b times it is at most n, b times one more is greater. -/
theorem dv (n b : Int) (hb : 0 < b) : b * (n / b) ≤ n ∧ n < b * (n / b) + b := by
  have h1 := Int.emod_add_mul_ediv n b
  have h2 := Int.emod_nonneg n (show b ≠ 0 by omega)
  have h3 := Int.emod_lt_of_pos n hb
  omega
theorem dv_mono {n m b : Int} (hb : 0 < b) (h : n ≤ m) : n / b ≤ m / b := Int.ediv_le_ediv hb h
/-- Rounded up. -/
def cdv (n b : Int) : Int := -(-n / b)
theorem cdv_bd (n b : Int) (hb : 0 < b) : n ≤ b * cdv n b ∧ b * cdv n b < n + b := by
  have h := dv (-n) b hb
  unfold cdv
  rw [Int.mul_neg]
  omega
theorem dv_le_cdv (n b : Int) (hb : 0 < b) : n / b ≤ cdv n b := by
  have h1 := dv n b hb
  have h2 := cdv_bd n b hb
  have : b * (n / b) ≤ b * cdv n b := by omega
  exact Int.le_of_mul_le_mul_left this hb
theorem cdv_mono {n m b : Int} (hb : 0 < b) (h : n ≤ m) : cdv n b ≤ cdv m b := by
  have := dv_mono (n := -m) (m := -n) hb (by omega)
  unfold cdv
  omega
theorem le_dv {n b q : Int} (hb : 0 < b) (h : b * q ≤ n) : q ≤ n / b := by
  rw [Int.le_ediv_iff_mul_le hb, Int.mul_comm]
  exact h
theorem dv_le {n b q : Int} (hb : 0 < b) (h : n ≤ b * q) : n / b ≤ q := by
  have h1 := dv n b hb
  exact Int.le_of_mul_le_mul_left (show b * (n / b) ≤ b * q by omega) hb
theorem cdv_le {n b q : Int} (hb : 0 < b) (h : n ≤ b * q) : cdv n b ≤ q := by
  have := le_dv (n := -n) (q := -q) hb (by rw [Int.mul_neg]; omega)
  unfold cdv
  omega
theorem le_cdv {n b q : Int} (hb : 0 < b) (h : b * q ≤ n) : q ≤ cdv n b := by
  have := dv_le (n := -n) (q := -q) hb (by rw [Int.mul_neg]; omega)
  unfold cdv
  omega
theorem cdv_self (q b : Int) (hb : 0 < b) : cdv (b * q) b = q := by
  have h1 := cdv_le (n := b * q) (q := q) hb (by omega)
  have h2 := le_cdv (n := b * q) (q := q) hb (by omega)
  omega
theorem dv_self (q b : Int) (hb : 0 < b) : (b * q) / b = q := by
  have h1 := dv_le (n := b * q) (q := q) hb (by omega)
  have h2 := le_dv (n := b * q) (q := q) hb (by omega)
  omega

/-- A valid range. -/
def okR (a b : Int) : Bool := decide (a ≤ b ∧ -2000000000 ≤ a ∧ b ≤ 2000000000)
theorem okR_iff {a b : Int} : okR a b = true ↔ a ≤ b ∧ -2000000000 ≤ a ∧ b ≤ 2000000000 := by simp [okR]
theorem okR_of {a b : Int} (h : a ≤ b) (h0 : -2000000000 ≤ a) (h1 : b ≤ 2000000000) : okR a b = true := okR_iff.2 ⟨h, h0, h1⟩
def lim (a b : Int) : Int × Int × Bool := if okR a b = true then (a, b, true) else (0, 0, false)
theorem lim_ok {a b : Int} (h : (lim a b).2.2 = true) : okR a b = true ∧ lim a b = (a, b, true) := by
  unfold lim at h ⊢
  by_cases c : okR a b = true
  · exact ⟨c, by rw [if_pos c]⟩
  · rw [if_neg c] at h
    cases h
theorem lim_yes {a b : Int} (h : okR a b = true) : lim a b = (a, b, true) := by unfold lim; rw [if_pos h]
def addR (a b c d : Int) : Int × Int × Bool := if okR a b = true ∧ okR c d = true then lim (a + c) (b + d) else (0, 0, false)
theorem addR_ok {a b c d : Int} (h : (addR a b c d).2.2 = true) : okR a b = true ∧ okR c d = true ∧ okR (a + c) (b + d) = true ∧ addR a b c d = (a + c, b + d, true) := by
  unfold addR at h ⊢
  by_cases k : okR a b = true ∧ okR c d = true
  · rw [if_pos k] at h ⊢
    exact ⟨k.1, k.2, lim_ok h⟩
  · rw [if_neg k] at h
    cases h
theorem addR_yes {a b c d : Int} (h1 : okR a b = true) (h2 : okR c d = true) (h3 : okR (a + c) (b + d) = true) : addR a b c d = (a + c, b + d, true) := by
  unfold addR
  rw [if_pos ⟨h1, h2⟩, lim_yes h3]
theorem addR_comm (a b c d : Int) : addR a b c d = addR c d a b := by
  unfold addR
  by_cases k : okR a b = true ∧ okR c d = true
  · rw [if_pos k, if_pos ⟨k.2, k.1⟩, Int.add_comm a c, Int.add_comm b d]
  · rw [if_neg k, if_neg (fun e => k ⟨e.2, e.1⟩)]

/-- Products lie within. -/
theorem prod_bd {x y M : Int} (hM : 0 ≤ M) (h0 : -M ≤ x) (h1 : x ≤ M) (h2 : -M ≤ y) (h3 : y ≤ M) : -(M * M) ≤ x * y ∧ x * y ≤ M * M := by
  have a1 := Int.mul_nonneg (show (0 : Int) ≤ M - x by omega) (show (0 : Int) ≤ M - y by omega)
  have a2 := Int.mul_nonneg (show (0 : Int) ≤ M + x by omega) (show (0 : Int) ≤ M + y by omega)
  have a3 := Int.mul_nonneg (show (0 : Int) ≤ M - x by omega) (show (0 : Int) ≤ M + y by omega)
  have a4 := Int.mul_nonneg (show (0 : Int) ≤ M + x by omega) (show (0 : Int) ≤ M - y by omega)
  simp only [Int.sub_mul, Int.add_mul, Int.mul_sub, Int.mul_add] at a1 a2 a3 a4
  generalize x * y = p at *
  generalize M * M = q at *
  generalize x * M = r at *
  generalize y * M = s at *
  omega
theorem mul_bd {x y : Int} (h0 : -2000000000 ≤ x) (h1 : x ≤ 2000000000) (h2 : -2000000000 ≤ y) (h3 : y ≤ 2000000000) : -4000000000000000000 ≤ x * y ∧ x * y ≤ 4000000000000000000 := by
  have := prod_bd (M := 2000000000) (by omega) h0 h1 h2 h3
  omega

def lo4 (p q r s : Int) : Int := min (min (min p q) r) s
def hi4 (p q r s : Int) : Int := max (max (max p q) r) s
theorem lo4_le (p q r s : Int) : lo4 p q r s ≤ p ∧ lo4 p q r s ≤ q ∧ lo4 p q r s ≤ r ∧ lo4 p q r s ≤ s := by unfold lo4; omega
theorem le_hi4 (p q r s : Int) : p ≤ hi4 p q r s ∧ q ≤ hi4 p q r s ∧ r ≤ hi4 p q r s ∧ s ≤ hi4 p q r s := by unfold hi4; omega
theorem le_lo4 {x p q r s : Int} (h1 : x ≤ p) (h2 : x ≤ q) (h3 : x ≤ r) (h4 : x ≤ s) : x ≤ lo4 p q r s := by unfold lo4; omega
theorem hi4_le {x p q r s : Int} (h1 : p ≤ x) (h2 : q ≤ x) (h3 : r ≤ x) (h4 : s ≤ x) : hi4 p q r s ≤ x := by unfold hi4; omega
def mulLo (a b c d : Int) : Int := lo4 (a * c) (a * d) (b * c) (b * d) / 1000000
def mulHi (a b c d : Int) : Int := cdv (hi4 (a * c) (a * d) (b * c) (b * d)) 1000000
def mulR (a b c d : Int) : Int × Int × Bool := if okR a b = true ∧ okR c d = true then lim (mulLo a b c d) (mulHi a b c d) else (0, 0, false)
theorem mulR_ok {a b c d : Int} (h : (mulR a b c d).2.2 = true) : okR a b = true ∧ okR c d = true ∧ okR (mulLo a b c d) (mulHi a b c d) = true ∧ mulR a b c d = (mulLo a b c d, mulHi a b c d, true) := by
  unfold mulR at h ⊢
  by_cases k : okR a b = true ∧ okR c d = true
  · rw [if_pos k] at h ⊢
    exact ⟨k.1, k.2, lim_ok h⟩
  · rw [if_neg k] at h
    cases h
theorem mulR_yes {a b c d : Int} (h1 : okR a b = true) (h2 : okR c d = true) (h3 : okR (mulLo a b c d) (mulHi a b c d) = true) : mulR a b c d = (mulLo a b c d, mulHi a b c d, true) := by
  unfold mulR
  rw [if_pos ⟨h1, h2⟩, lim_yes h3]
theorem mulLo_comm (a b c d : Int) : mulLo a b c d = mulLo c d a b := by
  unfold mulLo lo4
  rw [Int.mul_comm c a, Int.mul_comm c b, Int.mul_comm d a, Int.mul_comm d b]
  congr 1
  omega
theorem mulHi_comm (a b c d : Int) : mulHi a b c d = mulHi c d a b := by
  unfold mulHi hi4
  rw [Int.mul_comm c a, Int.mul_comm c b, Int.mul_comm d a, Int.mul_comm d b]
  congr 1
  omega
theorem mulR_comm (a b c d : Int) : mulR a b c d = mulR c d a b := by
  unfold mulR
  by_cases k : okR a b = true ∧ okR c d = true
  · rw [if_pos k, if_pos ⟨k.2, k.1⟩, mulLo_comm, mulHi_comm]
  · rw [if_neg k, if_neg (fun e => k ⟨e.2, e.1⟩)]
/-- The products of the bounds, and where the bounds of the product lie. -/
theorem mulLo_bd (a b c d : Int) : 1000000 * mulLo a b c d ≤ lo4 (a * c) (a * d) (b * c) (b * d) := (dv _ 1000000 (by omega)).1
theorem mulHi_bd (a b c d : Int) : hi4 (a * c) (a * d) (b * c) (b * d) ≤ 1000000 * mulHi a b c d := (cdv_bd _ 1000000 (by omega)).1
theorem mulLo_le_Hi (a b c d : Int) : mulLo a b c d ≤ mulHi a b c d := by
  have h1 := mulLo_bd a b c d
  have h2 := mulHi_bd a b c d
  have h3 := lo4_le (a * c) (a * d) (b * c) (b * d)
  have h4 := le_hi4 (a * c) (a * d) (b * c) (b * d)
  omega
theorem mulR_one {a b : Int} (h : okR a b = true) : mulR a b 1000000 1000000 = (a, b, true) := by
  have k := okR_iff.1 h
  have h1 : mulLo a b 1000000 1000000 = a := by
    unfold mulLo lo4
    omega
  have h2 : mulHi a b 1000000 1000000 = b := by
    unfold mulHi hi4 cdv
    omega
  rw [mulR_yes h (by decide) (by rw [h1, h2]; exact h), h1, h2]
/-- Ranges that are not negative. -/
theorem lo4_pos {a b c d : Int} (ha : 0 ≤ a) (hab : a ≤ b) (hc : 0 ≤ c) (hcd : c ≤ d) : lo4 (a * c) (a * d) (b * c) (b * d) = a * c := by
  have h1 := Int.mul_le_mul_of_nonneg_left hcd ha
  have h2 := Int.mul_le_mul_of_nonneg_right hab hc
  have h3 := Int.mul_le_mul hab hcd hc (by omega : 0 ≤ b)
  unfold lo4
  omega
theorem hi4_pos {a b c d : Int} (ha : 0 ≤ a) (hab : a ≤ b) (hc : 0 ≤ c) (hcd : c ≤ d) : hi4 (a * c) (a * d) (b * c) (b * d) = b * d := by
  have h1 := Int.mul_le_mul_of_nonneg_left hcd (show (0 : Int) ≤ b by omega)
  have h2 := Int.mul_le_mul_of_nonneg_right hab (show (0 : Int) ≤ d by omega)
  have h3 := Int.mul_le_mul hab hcd hc (by omega : 0 ≤ b)
  unfold hi4
  omega
theorem mulLo_pos {a b c d : Int} (ha : 0 ≤ a) (hab : a ≤ b) (hc : 0 ≤ c) (hcd : c ≤ d) : mulLo a b c d = a * c / 1000000 := by
  unfold mulLo
  rw [lo4_pos ha hab hc hcd]
theorem mulHi_pos {a b c d : Int} (ha : 0 ≤ a) (hab : a ≤ b) (hc : 0 ≤ c) (hcd : c ≤ d) : mulHi a b c d = cdv (b * d) 1000000 := by
  unfold mulHi
  rw [hi4_pos ha hab hc hcd]

def divLo (a d : Int) : Int := a * 1000000 / d
def divHi (b c : Int) : Int := cdv (b * 1000000) c
def divR (a b c d : Int) : Int × Int × Bool := if okR a b = true ∧ okR c d = true ∧ 0 ≤ a ∧ 0 < c then lim (divLo a d) (divHi b c) else (0, 0, false)
theorem divR_ok {a b c d : Int} (h : (divR a b c d).2.2 = true) : okR a b = true ∧ okR c d = true ∧ 0 ≤ a ∧ 0 < c ∧ okR (divLo a d) (divHi b c) = true ∧ divR a b c d = (divLo a d, divHi b c, true) := by
  unfold divR at h ⊢
  by_cases k : okR a b = true ∧ okR c d = true ∧ 0 ≤ a ∧ 0 < c
  · rw [if_pos k] at h ⊢
    exact ⟨k.1, k.2.1, k.2.2.1, k.2.2.2, lim_ok h⟩
  · rw [if_neg k] at h
    cases h
theorem divR_yes {a b c d : Int} (h1 : okR a b = true) (h2 : okR c d = true) (ha : 0 ≤ a) (hc : 0 < c) (h3 : okR (divLo a d) (divHi b c) = true) : divR a b c d = (divLo a d, divHi b c, true) := by
  unfold divR
  rw [if_pos ⟨h1, h2, ha, hc⟩, lim_yes h3]
theorem divLo_nonneg {a d : Int} (ha : 0 ≤ a) (hd : 0 < d) : 0 ≤ divLo a d := Int.ediv_nonneg (by omega) (by omega)
theorem divLo_le_Hi {a b c d : Int} (ha : 0 ≤ a) (hab : a ≤ b) (hc : 0 < c) (hcd : c ≤ d) : divLo a d ≤ divHi b c := by
  have h0 := divLo_nonneg ha (show 0 < d by omega)
  have h1 := (dv (a * 1000000) d (by omega)).1
  have h2 : c * divLo a d ≤ d * divLo a d := Int.mul_le_mul_of_nonneg_right hcd h0
  have h3 : d * divLo a d ≤ a * 1000000 := h1
  exact le_cdv hc (by omega)
theorem divR_one {a b : Int} (h : okR a b = true) (ha : 0 ≤ a) : divR a b 1000000 1000000 = (a, b, true) := by
  have h1 : divLo a 1000000 = a := by unfold divLo; omega
  have h2 : divHi b 1000000 = b := by unfold divHi cdv; omega
  rw [divR_yes h (by decide) ha (by omega) (by rw [h1, h2]; exact h), h1, h2]
end Go.Proofs.YtbofmoelmhbpoaaDoor.Rng

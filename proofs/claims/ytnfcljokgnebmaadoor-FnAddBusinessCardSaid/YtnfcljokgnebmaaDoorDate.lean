/-
  Dates of day numbers: program and reference (printed Lean functions) find the one year, month and day. Conditions: days in 0..36524.
-/
import Derived.Test.YtnfcljokgnebmaaDoorQx1
import Derived.Test.YtnfcljokgnebmaaDoorQx10
import Derived.Test.YtnfcljokgnebmaaDoorQx9
import Derived.Test.YtnfcljokgnebmaaDoorExtDays
import Derived.Test.YtnfcljokgnebmaaDoorSpecBiz
namespace Go.Proofs.YtnfcljokgnebmaaDoor.Pure
open Go.RowKit Go.Proofs.YtnfcljokgnebmaaDoor.Q Go.Proofs.YtnfcljokgnebmaaDoorW.PrintWords Go.Proofs.YtnfcljokgnebmaaDoorW.PrintLast Go.Proofs.YtnfcljokgnebmaaDoor.Biz

def yd (y : Int) : Int := if leapB y = true then 366 else 365
theorem yd_bd (y : Int) : 365 ≤ yd y ∧ yd y ≤ 366 := by unfold yd; split <;> omega
theorem impl_yd (y : Int) : impl_yearDays.f y = some (yd y) := by
  unfold impl_yearDays.f yd
  rw [impl_leap_eq]
  cases leapB y <;> rfl
theorem spec_leap_eq (y : Int) : spec_leap.f y = some (leapB y) := by
  rw [← impl_leap_eq]
  rfl
theorem spec_yd (y : Int) : spec_yearDays.f y = some (yd y) := by
  unfold spec_yearDays.f yd
  rw [spec_leap_eq]
  simp only [Option.bind_some]
  rw [toInt_eq]
  cases leapB y <;> decide +kernel
theorem month_cases {m : Int} (h1 : 1 ≤ m) (h2 : m ≤ 12) : m = 1 ∨ m = 2 ∨ m = 3 ∨ m = 4 ∨ m = 5 ∨ m = 6 ∨ m = 7 ∨ m = 8 ∨ m = 9 ∨ m = 10 ∨ m = 11 ∨ m = 12 := by omega
theorem dim_bd (y : Int) {m : Int} (h1 : 1 ≤ m) (h2 : m ≤ 12) : 28 ≤ dim y m ∧ dim y m ≤ 31 := by
  unfold dim
  cases leapB y <;> rcases month_cases h1 h2 with h | h | h | h | h | h | h | h | h | h | h | h <;> subst h <;> decide
theorem spec_dim (y m : Int) (h1 : 1 ≤ m) (h2 : m ≤ 12) : spec_daysIn.f y m = some (dim y m) := by
  unfold spec_daysIn.f dim
  rw [spec_leap_eq]
  cases leapB y <;> rcases month_cases h1 h2 with h | h | h | h | h | h | h | h | h | h | h | h <;> subst h <;> decide +kernel
theorem impl_dim (y m : Int) (h1 : 1 ≤ m) (h2 : m ≤ 12) : impl_daysIn.f y m = some (dim y m) := by
  unfold impl_daysIn.f
  rw [if_pos ⟨h1, h2⟩]

/-- Days of a year before its month i + 1. -/
def cm (y : Int) : Nat → Int
  | 0 => 0
  | i + 1 => cm y i + dim y ((i : Int) + 1)
def cm0 : Nat → Int
  | 0 => 0 | 1 => 31 | 2 => 59 | 3 => 90 | 4 => 120 | 5 => 151 | 6 => 181 | 7 => 212 | 8 => 243 | 9 => 273 | 10 => 304 | 11 => 334 | _ => 365
theorem nat_cases {i : Nat} (h : i ≤ 12) : i = 0 ∨ i = 1 ∨ i = 2 ∨ i = 3 ∨ i = 4 ∨ i = 5 ∨ i = 6 ∨ i = 7 ∨ i = 8 ∨ i = 9 ∨ i = 10 ∨ i = 11 ∨ i = 12 := by omega
theorem cm_bd (y : Int) {i : Nat} (h : i ≤ 12) : cm0 i ≤ cm y i ∧ cm y i ≤ cm0 i + 1 := by
  rcases nat_cases h with h | h | h | h | h | h | h | h | h | h | h | h | h <;> subst h <;> simp only [cm, cm0, dim] <;> cases leapB y <;> decide
theorem cm_year (y : Int) : cm y 12 = yd y := by
  simp only [cm, dim, yd]
  cases leapB y <;> decide
theorem cm_step (y : Int) (i : Nat) : cm y (i + 1) = cm y i + dim y ((i : Int) + 1) := rfl
theorem cm_mono (y : Int) : ∀ (d i : Nat), i + d ≤ 12 → cm y i ≤ cm y (i + d)
  | 0, i, _ => Int.le_refl _
  | d + 1, i, h => by
    have h1 := cm_mono y d i (by omega)
    have h2 := cm_step y (i + d)
    have h3 := dim_bd y (m := ((i + d : Nat) : Int) + 1) (by omega) (by omega)
    rw [show i + (d + 1) = i + d + 1 by omega, h2]
    omega
/-- Days before the year 1990 + i. -/
def cy : Nat → Int
  | 0 => 0
  | i + 1 => cy i + yd (1990 + (i : Int))
theorem cy_step (i : Nat) : cy (i + 1) = cy i + yd (1990 + (i : Int)) := rfl
theorem cy_all : cy 100 = 36525 := by decide +kernel
theorem cy_mono : ∀ (d i : Nat), cy i + 365 * d ≤ cy (i + d)
  | 0, i => by simp
  | d + 1, i => by
    have h1 := cy_mono d i
    have h2 := cy_step (i + d)
    have h3 := yd_bd (1990 + ((i + d : Nat) : Int))
    rw [show i + (d + 1) = i + d + 1 by omega, h2]
    omega

/-- Day r + 1 of month i + 1 of the year 1990 + j. -/
def Is (n : Int) (j i : Nat) (r : Int) : Prop := j < 100 ∧ i < 12 ∧ 0 ≤ r ∧ r < dim (1990 + (j : Int)) ((i : Int) + 1) ∧ n = cy j + cm (1990 + (j : Int)) i + r
theorem Is.year_lt {n : Int} {j i : Nat} {r : Int} (h : Is n j i r) : n < cy (j + 1) := by
  obtain ⟨_, h2, _, h4, h5⟩ := h
  have a := cm_mono (1990 + (j : Int)) (12 - (i + 1)) (i + 1) (by omega)
  rw [show i + 1 + (12 - (i + 1)) = 12 by omega, cm_year, cm_step] at a
  have b := cy_step j
  omega
theorem Is.year_ge {n : Int} {j i : Nat} {r : Int} (h : Is n j i r) : cy j ≤ n := by
  obtain ⟨_, h2, h3, _, h5⟩ := h
  have a := cm_mono (1990 + (j : Int)) i 0 (by omega)
  rw [Nat.zero_add] at a
  have b : cm (1990 + (j : Int)) 0 = 0 := rfl
  omega
theorem Is.uniq {n : Int} {j i j' i' : Nat} {r r' : Int} (h : Is n j i r) (h' : Is n j' i' r') : j = j' ∧ i = i' ∧ r = r' := by
  have hj : j = j' := by
    rcases Nat.lt_trichotomy j j' with c | c | c
    · have := cy_mono (j' - (j + 1)) (j + 1)
      rw [show j + 1 + (j' - (j + 1)) = j' by omega] at this
      have := h.year_lt
      have := h'.year_ge
      omega
    · exact c
    · have := cy_mono (j - (j' + 1)) (j' + 1)
      rw [show j' + 1 + (j - (j' + 1)) = j by omega] at this
      have := h'.year_lt
      have := h.year_ge
      omega
  subst hj
  obtain ⟨_, h2, h3, h4, h5⟩ := h
  obtain ⟨_, h2', h3', h4', h5'⟩ := h'
  have hi : i = i' := by
    rcases Nat.lt_trichotomy i i' with c | c | c
    · have a := cm_mono (1990 + (j : Int)) (i' - (i + 1)) (i + 1) (by omega)
      rw [show i + 1 + (i' - (i + 1)) = i' by omega, cm_step] at a
      omega
    · exact c
    · have a := cm_mono (1990 + (j : Int)) (i - (i' + 1)) (i' + 1) (by omega)
      rw [show i' + 1 + (i - (i' + 1)) = i by omega, cm_step] at a
      omega
  subst hi
  exact ⟨rfl, rfl, by omega⟩
/-- Two near days of one month of the year are of one year. -/
theorem Is.near {n m : Int} {j i j' : Nat} {r r' : Int} (h : Is n j i r) (h' : Is m j' i r') (h1 : m - n ≤ 18) (h2 : n - m ≤ 18) : j = j' := by
  have key : ∀ {n m : Int} {j j' : Nat} {r r' : Int}, Is n j i r → Is m j' i r' → m - n ≤ 18 → ¬ j < j' := by
    intro n m j j' r r' h h' h1 c
    have a := cy_mono (j' - j) j
    rw [show j + (j' - j) = j' by omega] at a
    obtain ⟨_, b2, b3, b4, b5⟩ := h
    obtain ⟨_, c2, c3, c4, c5⟩ := h'
    have d1 := cm_bd (1990 + (j : Int)) (i := i) (by omega)
    have d2 := cm_bd (1990 + (j' : Int)) (i := i) (by omega)
    have d3 := dim_bd (1990 + (j : Int)) (m := (i : Int) + 1) (by omega) (by omega)
    omega
  have a := key h h' h1
  have b := key h' h h2
  omega

theorem impl_months (j : Nat) : ∀ (d i : Nat) (x z : Int) (k : Nat), 12 - i = d → i < 12 → 0 ≤ x → x < cm (1990 + (j : Int)) 12 - cm (1990 + (j : Int)) i → d < k → j < 100 →
    ∃ (i' : Nat) (r : Int), i' < 12 ∧ 0 ≤ r ∧ r < dim (1990 + (j : Int)) ((i' : Int) + 1) ∧ x + cm (1990 + (j : Int)) i = cm (1990 + (j : Int)) i' + r ∧ impl_dateOf.l1 k x (1990 + (j : Int)) ((i : Int) + 1) z = some (1990 + (j : Int), (i' : Int) + 1, r + 1) := by
  intro d
  induction d with
  | zero => intro i x z k hd hi; omega
  | succ d ih =>
    intro i x z k hd hi h0 h1 hk hj
    obtain ⟨k, rfl⟩ : ∃ m, k = m + 1 := ⟨k - 1, by omega⟩
    have hb := dim_bd (1990 + (j : Int)) (m := (i : Int) + 1) (by omega) (by omega)
    have hx : x ≤ 366 := by
      have a := cm_year (1990 + (j : Int))
      have b := yd_bd (1990 + (j : Int))
      have c := cm_mono (1990 + (j : Int)) i 0 (by omega)
      rw [Nat.zero_add] at c
      have e : cm (1990 + (j : Int)) 0 = 0 := rfl
      omega
    simp only [impl_dateOf.l1]
    rw [impl_dim _ _ (by omega) (by omega)]
    simp only [Option.bind_some]
    by_cases c : x ≥ dim (1990 + (j : Int)) ((i : Int) + 1)
    · rw [if_pos c, w64 (by omega) (by omega), w64 (by omega) (by omega)]
      have hs := cm_step (1990 + (j : Int)) i
      have hi2 : i + 1 < 12 := by
        by_cases e : i + 1 < 12
        · exact e
        · have : i + 1 = 12 := by omega
          rw [this] at hs
          omega
      obtain ⟨i', r, a1, a2, a3, a4, a5⟩ := ih (i + 1) (x - dim (1990 + (j : Int)) ((i : Int) + 1)) z k (by omega) hi2 (by omega) (by omega) (by omega) hj
      exact ⟨i', r, a1, a2, a3, by omega, by rw [← a5]; rfl⟩
    · rw [if_neg c, w64 (by omega) (by omega)]
      exact ⟨i, x, hi, h0, by omega, by omega, rfl⟩
theorem impl_years : ∀ (d j : Nat) (x : Int) (k : Nat), 100 - j = d → j < 100 → 0 ≤ x → x < cy 100 - cy j → d + 13 < k →
    ∃ j' i r, Is (x + cy j) j' i r ∧ impl_dateOf.l0 k x (1990 + (j : Int)) 1 0 = some (1990 + (j' : Int), (i : Int) + 1, r + 1) := by
  intro d
  induction d with
  | zero => intro j x k hd hj; omega
  | succ d ih =>
    intro j x k hd hj h0 h1 hk
    obtain ⟨k, rfl⟩ : ∃ m, k = m + 1 := ⟨k - 1, by omega⟩
    have hb := yd_bd (1990 + (j : Int))
    have hall := cy_all
    have hc0 := cy_mono j 0
    rw [Nat.zero_add] at hc0
    have hz : cy 0 = 0 := rfl
    simp only [impl_dateOf.l0]
    rw [impl_yd]
    simp only [Option.bind_some]
    by_cases c : x ≥ yd (1990 + (j : Int))
    · rw [if_pos c, w64 (by omega) (by omega), w64 (by omega) (by omega)]
      have hs := cy_step j
      have hj2 : j + 1 < 100 := by
        by_cases e : j + 1 < 100
        · exact e
        · have : j + 1 = 100 := by omega
          rw [this] at hs
          omega
      obtain ⟨j', i, r, a1, a2⟩ := ih (j + 1) (x - yd (1990 + (j : Int))) k (by omega) hj2 (by omega) (by omega) (by omega)
      refine ⟨j', i, r, by rw [show x + cy j = x - yd (1990 + (j : Int)) + cy (j + 1) by omega]; exact a1, ?_⟩
      rw [← a2, show (1990 : Int) + ((j + 1 : Nat) : Int) = 1990 + (j : Int) + 1 by omega]
    · rw [if_neg c]
      obtain ⟨i', r, a1, a2, a3, a4, a5⟩ := impl_months j 12 0 x 0 k rfl (by omega) h0 (by rw [cm_year]; have : cm (1990 + (j : Int)) 0 = 0 := rfl; omega) (by omega) hj
      have e : cm (1990 + (j : Int)) 0 = 0 := rfl
      exact ⟨j, i', r, ⟨hj, a1, a2, a3, by omega⟩, a5⟩
theorem impl_dateOf_ok (n : Int) (k : Nat) (h0 : 0 ≤ n) (h1 : n ≤ 36524) (hk : 120 ≤ k) : ∃ j i r, Is n j i r ∧ impl_dateOf.f k n = some (1990 + (j : Int), (i : Int) + 1, r + 1) := by
  have hall := cy_all
  have hz : cy 0 = 0 := rfl
  obtain ⟨j, i, r, a1, a2⟩ := impl_years 100 0 n k rfl (by omega) h0 (by omega) (by omega)
  exact ⟨j, i, r, by rw [hz, Int.add_zero] at a1; exact a1, a2⟩

theorem spec_months (j : Nat) : ∀ (d i : Nat) (x : Int) (k : Nat), 12 - i = d → i < 12 → 0 ≤ x → x < cm (1990 + (j : Int)) 12 - cm (1990 + (j : Int)) i → d < k → j < 100 →
    ∃ (i' : Nat) (r : Int), i' < 12 ∧ 0 ≤ r ∧ r < dim (1990 + (j : Int)) ((i' : Int) + 1) ∧ x + cm (1990 + (j : Int)) i = cm (1990 + (j : Int)) i' + r ∧ spec_dateOf.l1 k x (1990 + (j : Int)) ((i : Int) + 1) = some (1990 + (j : Int), (i' : Int) + 1, r + 1) := by
  intro d
  induction d with
  | zero => intro i x k hd hi; omega
  | succ d ih =>
    intro i x k hd hi h0 h1 hk hj
    obtain ⟨k, rfl⟩ : ∃ m, k = m + 1 := ⟨k - 1, by omega⟩
    have hb := dim_bd (1990 + (j : Int)) (m := (i : Int) + 1) (by omega) (by omega)
    have hx : x ≤ 366 := by
      have a := cm_year (1990 + (j : Int))
      have b := yd_bd (1990 + (j : Int))
      have c := cm_mono (1990 + (j : Int)) i 0 (by omega)
      rw [Nat.zero_add] at c
      have e : cm (1990 + (j : Int)) 0 = 0 := rfl
      omega
    simp only [spec_dateOf.l1]
    rw [spec_dim _ _ (by omega) (by omega)]
    simp only [Option.bind_some]
    by_cases c : x ≥ dim (1990 + (j : Int)) ((i : Int) + 1)
    · rw [if_pos c, w64 (by omega) (by omega), w64 (by omega) (by omega)]
      have hs := cm_step (1990 + (j : Int)) i
      have hi2 : i + 1 < 12 := by
        by_cases e : i + 1 < 12
        · exact e
        · have : i + 1 = 12 := by omega
          rw [this] at hs
          omega
      obtain ⟨i', r, a1, a2, a3, a4, a5⟩ := ih (i + 1) (x - dim (1990 + (j : Int)) ((i : Int) + 1)) k (by omega) hi2 (by omega) (by omega) (by omega) hj
      exact ⟨i', r, a1, a2, a3, by omega, by rw [← a5]; rfl⟩
    · rw [if_neg c, w64 (by omega) (by omega)]
      exact ⟨i, x, hi, h0, by omega, by omega, rfl⟩
theorem spec_years : ∀ (d j : Nat) (x : Int) (k : Nat), 100 - j = d → j < 100 → 0 ≤ x → x < cy 100 - cy j → d + 13 < k →
    ∃ j' i r, Is (x + cy j) j' i r ∧ spec_dateOf.l0 k x (1990 + (j : Int)) = some (1990 + (j' : Int), (i : Int) + 1, r + 1) := by
  intro d
  induction d with
  | zero => intro j x k hd hj; omega
  | succ d ih =>
    intro j x k hd hj h0 h1 hk
    obtain ⟨k, rfl⟩ : ∃ m, k = m + 1 := ⟨k - 1, by omega⟩
    have hb := yd_bd (1990 + (j : Int))
    have hall := cy_all
    have hc0 := cy_mono j 0
    rw [Nat.zero_add] at hc0
    have hz : cy 0 = 0 := rfl
    simp only [spec_dateOf.l0]
    rw [spec_yd]
    simp only [Option.bind_some]
    by_cases c : x ≥ yd (1990 + (j : Int))
    · rw [if_pos c, w64 (by omega) (by omega), w64 (by omega) (by omega)]
      have hs := cy_step j
      have hj2 : j + 1 < 100 := by
        by_cases e : j + 1 < 100
        · exact e
        · have : j + 1 = 100 := by omega
          rw [this] at hs
          omega
      obtain ⟨j', i, r, a1, a2⟩ := ih (j + 1) (x - yd (1990 + (j : Int))) k (by omega) hj2 (by omega) (by omega) (by omega)
      refine ⟨j', i, r, by rw [show x + cy j = x - yd (1990 + (j : Int)) + cy (j + 1) by omega]; exact a1, ?_⟩
      rw [← a2, show (1990 : Int) + ((j + 1 : Nat) : Int) = 1990 + (j : Int) + 1 by omega]
    · rw [if_neg c]
      obtain ⟨i', r, a1, a2, a3, a4, a5⟩ := spec_months j 12 0 x k rfl (by omega) h0 (by rw [cm_year]; have : cm (1990 + (j : Int)) 0 = 0 := rfl; omega) (by omega) hj
      have e : cm (1990 + (j : Int)) 0 = 0 := rfl
      exact ⟨j, i', r, ⟨hj, a1, a2, a3, by omega⟩, a5⟩
theorem spec_dateOf_ok (n : Int) (k : Nat) (h0 : 0 ≤ n) (h1 : n ≤ 36524) (hk : 120 ≤ k) : ∃ j i r, Is n j i r ∧ spec_dateOf.f k n = some (1990 + (j : Int), (i : Int) + 1, r + 1) := by
  have hall := cy_all
  have hz : cy 0 = 0 := rfl
  obtain ⟨j, i, r, a1, a2⟩ := spec_years 100 0 n k rfl (by omega) h0 (by omega) (by omega)
  exact ⟨j, i, r, by rw [hz, Int.add_zero] at a1; exact a1, a2⟩

/-- The date of a day. -/
def dateP (n : Int) : Int × Int × Int := (impl_dateOf.f 200 n).getD (0, 0, 0)
theorem dateP_is (n : Int) (h0 : 0 ≤ n) (h1 : n ≤ 36524) : ∃ j i r, Is n j i r ∧ dateP n = (1990 + (j : Int), (i : Int) + 1, r + 1) := by
  obtain ⟨j, i, r, a1, a2⟩ := impl_dateOf_ok n 200 h0 h1 (by omega)
  exact ⟨j, i, r, a1, by unfold dateP; rw [a2]; rfl⟩
theorem impl_dateP (n : Int) (k : Nat) (h0 : 0 ≤ n) (h1 : n ≤ 36524) (hk : 120 ≤ k) : impl_dateOf.f k n = some (dateP n) := by
  obtain ⟨j, i, r, a1, a2⟩ := impl_dateOf_ok n k h0 h1 hk
  obtain ⟨j', i', r', b1, b2⟩ := dateP_is n h0 h1
  obtain ⟨rfl, rfl, rfl⟩ := a1.uniq b1
  rw [a2, b2]
theorem spec_dateP (n : Int) (k : Nat) (h0 : 0 ≤ n) (h1 : n ≤ 36524) (hk : 120 ≤ k) : spec_dateOf.f k n = some (dateP n) := by
  obtain ⟨j, i, r, a1, a2⟩ := spec_dateOf_ok n k h0 h1 hk
  obtain ⟨j', i', r', b1, b2⟩ := dateP_is n h0 h1
  obtain ⟨rfl, rfl, rfl⟩ := a1.uniq b1
  rw [a2, b2]

/-- Of one month of one year. -/
def sameYM (n m : Int) : Bool := (dateP n).1 == (dateP m).1 && (dateP n).2.1 == (dateP m).2.1
theorem sameYM_near {n m : Int} (n0 : 0 ≤ n) (n1 : n ≤ 36524) (m0 : 0 ≤ m) (m1 : m ≤ 36524) (h1 : m - n ≤ 18) (h2 : n - m ≤ 18) : sameYM n m = ((dateP n).2.1 == (dateP m).2.1) := by
  obtain ⟨j, i, r, a1, a2⟩ := dateP_is n n0 n1
  obtain ⟨j', i', r', b1, b2⟩ := dateP_is m m0 m1
  unfold sameYM
  rw [a2, b2]
  by_cases e : i = i'
  · subst e
    obtain rfl := a1.near b1 h1 h2
    simp
  · have : (((i : Int) + 1) == ((i' : Int) + 1)) = false := by
      rw [beq_eq_false_iff_ne]
      omega
    simp [this]
/-- What AdjustDay answers. -/
def adjustP (h : List Int) (n rule : Int) : Int :=
  if holOk h = true ∧ dayV n = true then
    if rule = 0 then n else if rule = 1 then up h n else if rule = 2 then dn h n else if rule = 3 then (if 0 ≤ up h n ∧ sameYM n (up h n) = true then up h n else dn h n) else -1
  else -1
end Go.Proofs.YtnfcljokgnebmaaDoor.Pure

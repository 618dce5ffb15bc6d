/-
  Powers of ranges and discounts, as pairs of whole numbers, without Go. Conditions: they stand in each theorem.
-/
import Derived.Test.YtomhnfajnbhaoaaDoorRng
namespace Go.Proofs.YtomhnfajnbhaoaaDoor.Rng
open Go.RowKit
set_option linter.unusedVariables false

/-- A range multiplied so many times, beginning with 1. -/
def powR (a b : Int) : Nat → Int × Int × Bool
  | 0 => (1000000, 1000000, true)
  | n + 1 => if (powR a b n).2.2 = true then mulR (powR a b n).1 (powR a b n).2.1 a b else (0, 0, false)

theorem powR_zero (a b : Int) : powR a b 0 = (1000000, 1000000, true) := rfl
theorem powR_succ (a b : Int) (n : Nat) (h : (powR a b n).2.2 = true) : powR a b (n + 1) = mulR (powR a b n).1 (powR a b n).2.1 a b := by
  show (if _ then _ else _) = _
  rw [if_pos h]
theorem powR_no (a b : Int) (n : Nat) (h : ¬ (powR a b n).2.2 = true) : powR a b (n + 1) = (0, 0, false) := by
  show (if _ then _ else _) = _
  rw [if_neg h]
theorem powR_before {a b : Int} {n : Nat} (h : (powR a b (n + 1)).2.2 = true) : (powR a b n).2.2 = true := by
  by_cases k : (powR a b n).2.2 = true
  · exact k
  · rw [powR_no a b n k] at h
    cases h
/-- What a valid power's bounds are. -/
theorem powR_ok {a b : Int} (hab : okR a b = true) (ha : 0 ≤ a) : ∀ n, (powR a b n).2.2 = true → okR (powR a b n).1 (powR a b n).2.1 = true ∧ 0 ≤ (powR a b n).1
  | 0, _ => by rw [powR_zero]; exact ⟨by decide, by decide⟩
  | n + 1, h => by
    have hn := powR_before h
    obtain ⟨h1, h2⟩ := powR_ok hab ha n hn
    rw [powR_succ a b n hn] at h ⊢
    obtain ⟨_, _, h3, he⟩ := mulR_ok h
    have k1 := okR_iff.1 h1
    have k2 := okR_iff.1 hab
    rw [he]
    refine ⟨h3, ?_⟩
    show 0 ≤ mulLo _ _ _ _
    rw [mulLo_pos h2 k1.1 ha k2.1]
    exact Int.ediv_nonneg (Int.mul_nonneg h2 ha) (by omega)
/-- One more. -/
theorem powR_step {a b : Int} (hab : okR a b = true) (ha : 0 ≤ a) {n : Nat} (h : (powR a b (n + 1)).2.2 = true) :
    (powR a b (n + 1)).1 = (powR a b n).1 * a / 1000000 ∧ (powR a b (n + 1)).2.1 = cdv ((powR a b n).2.1 * b) 1000000 := by
  have hn := powR_before h
  obtain ⟨h1, h2⟩ := powR_ok hab ha n hn
  have k1 := okR_iff.1 h1
  have k2 := okR_iff.1 hab
  rw [powR_succ a b n hn] at h ⊢
  obtain ⟨_, _, _, he⟩ := mulR_ok h
  rw [he]
  exact ⟨mulLo_pos h2 k1.1 ha k2.1, mulHi_pos h2 k1.1 ha k2.1⟩

/-- The power of n + 2 and the product of those of n and of 2 have a number in common. -/
theorem powR_sum {a b : Int} (hab : okR a b = true) (ha : 0 ≤ a) {n : Nat} (h : (powR a b (n + 2)).2.2 = true) (h2 : (powR a b 2).2.2 = true)
    (hz : (mulR (powR a b n).1 (powR a b n).2.1 (powR a b 2).1 (powR a b 2).2.1).2.2 = true) :
    (mulR (powR a b n).1 (powR a b n).2.1 (powR a b 2).1 (powR a b 2).2.1).1 ≤ (powR a b (n + 2)).2.1 ∧ (powR a b (n + 2)).1 ≤ (mulR (powR a b n).1 (powR a b n).2.1 (powR a b 2).1 (powR a b 2).2.1).2.1 := by
  have g1 := powR_before h
  have g0 := powR_before g1
  obtain ⟨o0, p0⟩ := powR_ok hab ha n g0
  obtain ⟨o1, p1⟩ := powR_ok hab ha (n + 1) g1
  obtain ⟨o2, p2⟩ := powR_ok hab ha 2 h2
  have k0 := okR_iff.1 o0
  have k1 := okR_iff.1 o1
  have k2 := okR_iff.1 o2
  have kab := okR_iff.1 hab
  obtain ⟨e2l, e2h⟩ := powR_step hab ha h
  obtain ⟨e1l, e1h⟩ := powR_step hab ha g1
  obtain ⟨d2l, d2h⟩ := powR_step hab ha h2
  obtain ⟨d1l, d1h⟩ := powR_step hab ha (powR_before h2)
  have t1 := (dv ((powR a b (n + 1)).1 * a) 1000000 (by omega)).1
  have t2 := (dv ((powR a b n).1 * a) 1000000 (by omega)).1
  have t3 := (cdv_bd ((powR a b (n + 1)).2.1 * b) 1000000 (by omega)).1
  have t4 := (cdv_bd ((powR a b n).2.1 * b) 1000000 (by omega)).1
  have u1 := (dv ((powR a b 1).1 * a) 1000000 (by omega)).1
  have u2 := (cdv_bd ((powR a b 1).2.1 * b) 1000000 (by omega)).1
  have q1l : (powR a b 1).1 = a := by rw [d1l, powR_zero]; show 1000000 * a / 1000000 = a; omega
  have q1h : (powR a b 1).2.1 = b := by rw [d1h, powR_zero]; show cdv (1000000 * b) 1000000 = b; exact cdv_self b 1000000 (by omega)
  rw [← e2l] at t1
  rw [← e1l] at t2
  rw [← e2h] at t3
  rw [← e1h] at t4
  rw [← d2l, q1l] at u1
  rw [← d2h, q1h] at u2
  obtain ⟨_, _, _, he⟩ := mulR_ok hz
  rw [he]
  show mulLo _ _ _ _ ≤ _ ∧ _ ≤ mulHi _ _ _ _
  rw [mulLo_pos p0 k0.1 p2 k2.1, mulHi_pos p0 k0.1 p2 k2.1]
  have hb0 : 0 ≤ b := by omega
  generalize (powR a b n).1 = L0 at *
  generalize (powR a b n).2.1 = H0 at *
  generalize (powR a b (n + 1)).1 = L1 at *
  generalize (powR a b (n + 1)).2.1 = H1 at *
  generalize (powR a b (n + 2)).1 = L2 at *
  generalize (powR a b (n + 2)).2.1 = H2 at *
  generalize (powR a b 2).1 = P at *
  generalize (powR a b 2).2.1 = R at *
  -- all over a million squared
  have x1 : 1000000 * (1000000 * L2) ≤ L0 * (a * a) := by
    have := Int.mul_le_mul_of_nonneg_right t2 ha
    rw [Int.mul_assoc, Int.mul_assoc] at this
    omega
  have x2 : H0 * (b * b) ≤ 1000000 * (1000000 * H2) := by
    have := Int.mul_le_mul_of_nonneg_right t4 hb0
    rw [Int.mul_assoc, Int.mul_assoc] at this
    omega
  have x3 : L0 * (a * a) ≤ H0 * (b * b) := Int.mul_le_mul k0.1 (Int.mul_le_mul kab.1 kab.1 ha hb0) (Int.mul_nonneg ha ha) (by omega)
  have x4 : 1000000 * (L0 * P) ≤ L0 * (a * a) := by
    have := Int.mul_le_mul_of_nonneg_left u1 p0
    rw [Int.mul_left_comm] at this
    exact this
  have x5 : H0 * (b * b) ≤ 1000000 * (H0 * R) := by
    have := Int.mul_le_mul_of_nonneg_left u2 (show 0 ≤ H0 by omega)
    rw [Int.mul_left_comm H0 1000000] at this
    exact this
  exact ⟨dv_le (by omega) (by omega), le_cdv (by omega) (by omega)⟩

/-- What 1 grows to in whole periods, from bounds on. -/
def grow (y l h : Int) : Nat → Int × Int
  | 0 => (l, h)
  | n + 1 => ((grow y l h n).1 * (1000000 + y) / 1000000, cdv ((grow y l h n).2 * (1000000 + y)) 1000000)
def growB : Nat → Int
  | 0 => 1100000
  | n + 1 => growB n * 11 / 10 + 1
theorem growB_41 : growB 41 ≤ 2000000000 := by decide +kernel
theorem growB_pos : ∀ n, 0 ≤ growB n
  | 0 => by decide
  | n + 1 => by have := growB_pos n; show 0 ≤ growB n * 11 / 10 + 1; omega
theorem growB_mono : ∀ (d n : Nat), growB n ≤ growB (n + d)
  | 0, n => Int.le_refl _
  | d + 1, n => by
    have h1 := growB_mono d n
    have h2 := growB_pos (n + d)
    show growB n ≤ growB (n + d) * 11 / 10 + 1
    omega
theorem growB_le {n : Nat} (h : n ≤ 41) : growB n ≤ 2000000000 := by
  have := growB_mono (41 - n) n
  rw [show n + (41 - n) = 41 by omega] at this
  exact Int.le_trans this growB_41
theorem grow_bd {y l h : Int} (hy0 : 0 ≤ y) (hy : y ≤ 100000) (hl : 1000000 ≤ l) (hlh : l ≤ h) (hh : h ≤ 1100000) : ∀ n, 1000000 ≤ (grow y l h n).1 ∧ (grow y l h n).1 ≤ (grow y l h n).2 ∧ (grow y l h n).2 ≤ growB n
  | 0 => ⟨hl, hlh, hh⟩
  | n + 1 => by
    obtain ⟨h1, h2, h3⟩ := grow_bd hy0 hy hl hlh hh n
    show 1000000 ≤ (grow y l h n).1 * (1000000 + y) / 1000000 ∧ (grow y l h n).1 * (1000000 + y) / 1000000 ≤ cdv ((grow y l h n).2 * (1000000 + y)) 1000000 ∧ cdv ((grow y l h n).2 * (1000000 + y)) 1000000 ≤ growB n * 11 / 10 + 1
    generalize (grow y l h n).1 = L at *
    generalize (grow y l h n).2 = H at *
    generalize growB n = B at *
    have e1 : 1000000 * L ≤ L * (1000000 + y) := by rw [Int.mul_add]; have := Int.mul_nonneg (show 0 ≤ L by omega) hy0; omega
    have e2 : L * (1000000 + y) ≤ H * (1000000 + y) := Int.mul_le_mul_of_nonneg_right h2 (by omega)
    have e3 : H * (1000000 + y) ≤ B * 1100000 := Int.mul_le_mul h3 (by omega) (by omega) (by omega)
    refine ⟨le_dv (by omega) (by omega), Int.le_trans (dv_mono (by omega) e2) (dv_le_cdv _ _ (by omega)), ?_⟩
    refine cdv_le (by omega) ?_
    omega
theorem grow_mono {y l h y' l' h' : Int} (hy0 : 0 ≤ y) (hy : y ≤ y') (hl0 : 0 ≤ l) (hl : l ≤ l') (hh0 : 0 ≤ h) (hh : h ≤ h') : ∀ n, 0 ≤ (grow y l h n).1 ∧ 0 ≤ (grow y l h n).2 ∧ (grow y l h n).1 ≤ (grow y' l' h' n).1 ∧ (grow y l h n).2 ≤ (grow y' l' h' n).2
  | 0 => ⟨hl0, hh0, hl, hh⟩
  | n + 1 => by
    obtain ⟨h1, h2, h3, h4⟩ := grow_mono hy0 hy hl0 hl hh0 hh n
    have e1 : (grow y l h n).1 * (1000000 + y) ≤ (grow y' l' h' n).1 * (1000000 + y') := Int.mul_le_mul h3 (by omega) (by omega) (by omega)
    have e2 : (grow y l h n).2 * (1000000 + y) ≤ (grow y' l' h' n).2 * (1000000 + y') := Int.mul_le_mul h4 (by omega) (by omega) (by omega)
    have e3 := Int.mul_nonneg h1 (show 0 ≤ 1000000 + y by omega)
    have e4 := Int.mul_nonneg h2 (show 0 ≤ 1000000 + y by omega)
    exact ⟨Int.ediv_nonneg e3 (by omega), le_cdv (by omega) (by omega), dv_mono (by omega) e1, cdv_mono (by omega) e2⟩
theorem grow_next {y l h : Int} (hy0 : 0 ≤ y) (n : Nat) (h1 : 0 ≤ (grow y l h n).1) (h2 : 0 ≤ (grow y l h n).2) : (grow y l h n).1 ≤ (grow y l h (n + 1)).1 ∧ (grow y l h n).2 ≤ (grow y l h (n + 1)).2 := by
  show _ ≤ (grow y l h n).1 * (1000000 + y) / 1000000 ∧ _ ≤ cdv ((grow y l h n).2 * (1000000 + y)) 1000000
  have e1 := Int.mul_nonneg h1 hy0
  have e2 := Int.mul_nonneg h2 hy0
  exact ⟨le_dv (by omega) (by rw [Int.mul_add]; omega), le_cdv (by omega) (by rw [Int.mul_add]; omega)⟩
theorem grow_flat (n : Nat) : grow 0 1000000 1000000 n = (1000000, 1000000) := by
  induction n with
  | zero => rfl
  | succ n ih =>
    show ((grow 0 1000000 1000000 n).1 * (1000000 + 0) / 1000000, cdv ((grow 0 1000000 1000000 n).2 * (1000000 + 0)) 1000000) = _
    rw [ih]
    decide

/-- The first part of a period. -/
def part (y left days : Int) : Int × Int := (1000000 + y * left / days, 1000000 + cdv (y * left) days)
theorem part_bd {y left days : Int} (hy0 : 0 ≤ y) (hy : y ≤ 100000) (h0 : 0 ≤ left) (h1 : left ≤ days) (hd : 0 < days) : 1000000 ≤ (part y left days).1 ∧ (part y left days).1 ≤ (part y left days).2 ∧ (part y left days).2 ≤ 1000000 + y := by
  have e0 := Int.mul_nonneg hy0 h0
  have e1 : y * left ≤ days * y := by rw [Int.mul_comm days y]; exact Int.mul_le_mul_of_nonneg_left h1 hy0
  refine ⟨?_, ?_, ?_⟩
  · have := Int.ediv_nonneg e0 (show 0 ≤ days by omega)
    show 1000000 ≤ 1000000 + y * left / days
    omega
  · have := dv_le_cdv (y * left) days hd
    show 1000000 + y * left / days ≤ 1000000 + cdv (y * left) days
    omega
  · have := cdv_le hd e1
    show 1000000 + cdv (y * left) days ≤ 1000000 + y
    omega
theorem part_mono {y left y' left' days : Int} (hy0 : 0 ≤ y) (hy : y ≤ y') (h0 : 0 ≤ left) (h1 : left ≤ left') (hd : 0 < days) : (part y left days).1 ≤ (part y' left' days).1 ∧ (part y left days).2 ≤ (part y' left' days).2 := by
  have e : y * left ≤ y' * left' := Int.mul_le_mul hy h1 h0 (by omega)
  have e1 := dv_mono hd e
  have e2 := cdv_mono hd e
  show 1000000 + y * left / days ≤ 1000000 + y' * left' / days ∧ 1000000 + cdv (y * left) days ≤ 1000000 + cdv (y' * left') days
  omega
theorem part_none (left days : Int) (hd : 0 < days) : part 0 left days = (1000000, 1000000) := by
  unfold part cdv
  simp
theorem part_end (y days : Int) (hd : 0 < days) : part y 0 days = (1000000, 1000000) := by
  unfold part cdv
  simp
/-- The range of the value of 1 that is paid later. -/
def disc (y left days : Int) (n : Nat) : Int × Int :=
  (divLo 1000000 (grow y (part y left days).1 (part y left days).2 n).2, divHi 1000000 (grow y (part y left days).1 (part y left days).2 n).1)
theorem disc_ok {y left days : Int} {n : Nat} (hy0 : 0 ≤ y) (hy : y ≤ 100000) (h0 : 0 ≤ left) (h1 : left ≤ days) (hd : 0 < days) (hn : n ≤ 41) :
    0 < (disc y left days n).1 ∧ (disc y left days n).1 ≤ (disc y left days n).2 ∧ (disc y left days n).2 ≤ 1000000 := by
  have p := part_bd hy0 hy h0 h1 hd
  have g := grow_bd hy0 hy p.1 p.2.1 (by omega) n
  have b := growB_le hn
  refine ⟨?_, divLo_le_Hi (by omega) (Int.le_refl _) (by omega) g.2.1, ?_⟩
  · show 0 < 1000000 * 1000000 / _
    have := le_dv (n := 1000000 * 1000000) (b := (grow y (part y left days).1 (part y left days).2 n).2) (q := 1) (by omega) (by omega)
    omega
  · exact cdv_le (by omega) (by omega)
theorem divLo_anti {d d' : Int} (hd : 0 < d) (h : d ≤ d') : divLo 1000000 d' ≤ divLo 1000000 d := by
  have h0 := divLo_nonneg (a := 1000000) (d := d') (by omega) (by omega)
  have h1 := (dv (1000000 * 1000000) d' (by omega)).1
  refine le_dv hd ?_
  have := Int.mul_le_mul_of_nonneg_right h h0
  have h2 : d' * divLo 1000000 d' ≤ 1000000 * 1000000 := h1
  omega
theorem divHi_anti {c c' : Int} (hc : 0 < c) (h : c ≤ c') : divHi 1000000 c' ≤ divHi 1000000 c := by
  have h1 := (cdv_bd (1000000 * 1000000) c (by omega)).1
  have h0 : 0 ≤ divHi 1000000 c := le_cdv hc (by omega)
  refine cdv_le (by omega) ?_
  have := Int.mul_le_mul_of_nonneg_right h h0
  have h2 : 1000000 * 1000000 ≤ c * divHi 1000000 c := h1
  omega
/-- What grows to more is worth less. -/
theorem disc_anti {y left y' left' days : Int} {n : Nat} (hy0 : 0 ≤ y) (hyy : y ≤ y') (hy : y' ≤ 100000) (h0 : 0 ≤ left) (hll : left ≤ left') (h1 : left' ≤ days) (hd : 0 < days) :
    (disc y' left' days n).1 ≤ (disc y left days n).1 ∧ (disc y' left' days n).2 ≤ (disc y left days n).2 := by
  have p := part_bd hy0 (by omega : y ≤ 100000) h0 (by omega : left ≤ days) hd
  have g := grow_bd hy0 (by omega) p.1 p.2.1 (by omega) n
  have pm := part_mono hy0 hyy h0 hll hd
  have m := grow_mono hy0 hyy (by omega) pm.1 (by omega) pm.2 n
  exact ⟨divLo_anti (by omega) m.2.2.2, divHi_anti (by omega) m.2.2.1⟩
theorem disc_next {y left days : Int} {n : Nat} (hy0 : 0 ≤ y) (hy : y ≤ 100000) (h0 : 0 ≤ left) (h1 : left ≤ days) (hd : 0 < days) :
    (disc y left days (n + 1)).1 ≤ (disc y left days n).1 ∧ (disc y left days (n + 1)).2 ≤ (disc y left days n).2 := by
  have p := part_bd hy0 hy h0 h1 hd
  have g := grow_bd hy0 hy p.1 p.2.1 (by omega) n
  have m := grow_next (l := (part y left days).1) (h := (part y left days).2) hy0 n (by omega) (by omega)
  exact ⟨divLo_anti (by omega) m.2, divHi_anti (by omega) m.1⟩
theorem disc_none {left days : Int} (n : Nat) (hd : 0 < days) : disc 0 left days n = (1000000, 1000000) := by
  unfold disc
  rw [part_none left days hd, grow_flat]
  decide
/-- One period more, times 1 plus the yield. -/
theorem disc_period {y left days : Int} {n : Nat} (hy0 : 0 ≤ y) (hy : y ≤ 100000) (h0 : 0 ≤ left) (h1 : left ≤ days) (hd : 0 < days) (hn : n ≤ 40) :
    (mulR (disc y left days (n + 1)).1 (disc y left days (n + 1)).2 (1000000 + y) (1000000 + y)).2.2 = true ∧
    (mulR (disc y left days (n + 1)).1 (disc y left days (n + 1)).2 (1000000 + y) (1000000 + y)).1 ≤ (disc y left days n).2 ∧
    (disc y left days n).1 ≤ (mulR (disc y left days (n + 1)).1 (disc y left days (n + 1)).2 (1000000 + y) (1000000 + y)).2.1 := by
  have d1 := disc_ok (n := n + 1) hy0 hy h0 h1 hd (by omega)
  have d0 := disc_ok (n := n) hy0 hy h0 h1 hd (by omega)
  have p := part_bd hy0 hy h0 h1 hd
  have g := grow_bd hy0 hy p.1 p.2.1 (by omega) n
  have g1 := grow_bd hy0 hy p.1 p.2.1 (by omega) (n + 1)
  have lo : mulLo (disc y left days (n + 1)).1 (disc y left days (n + 1)).2 (1000000 + y) (1000000 + y) = (disc y left days (n + 1)).1 * (1000000 + y) / 1000000 := mulLo_pos (by omega) d1.2.1 (by omega) (Int.le_refl _)
  have hi : mulHi (disc y left days (n + 1)).1 (disc y left days (n + 1)).2 (1000000 + y) (1000000 + y) = cdv ((disc y left days (n + 1)).2 * (1000000 + y)) 1000000 := mulHi_pos (by omega) d1.2.1 (by omega) (Int.le_refl _)
  have lh := mulLo_le_Hi (disc y left days (n + 1)).1 (disc y left days (n + 1)).2 (1000000 + y) (1000000 + y)
  have hb : mulHi (disc y left days (n + 1)).1 (disc y left days (n + 1)).2 (1000000 + y) (1000000 + y) ≤ 1100000 := by
    rw [hi]
    refine cdv_le (by omega) ?_
    have := Int.mul_le_mul d1.2.2 (show 1000000 + y ≤ 1100000 by omega) (by omega) (by omega)
    omega
  have lb : 0 ≤ mulLo (disc y left days (n + 1)).1 (disc y left days (n + 1)).2 (1000000 + y) (1000000 + y) := by
    rw [lo]
    exact Int.ediv_nonneg (Int.mul_nonneg (by omega) (by omega)) (by omega)
  rw [mulR_yes (okR_of d1.2.1 (by omega) (by omega)) (okR_of (Int.le_refl _) (by omega) (by omega)) (okR_of lh (by omega) (by omega))]
  refine ⟨rfl, ?_, ?_⟩
  · show mulLo _ _ _ _ ≤ _
    rw [lo]
    -- low' * H' ≤ M², H' * M ≥ H * (M + y); so low' * (M + y) * H ≤ low' * H' * M
    have a1 := (dv (1000000 * 1000000) (grow y (part y left days).1 (part y left days).2 (n + 1)).2 (by omega)).1
    have a2 := (cdv_bd ((grow y (part y left days).1 (part y left days).2 n).2 * (1000000 + y)) 1000000 (by omega)).1
    have a3 := (cdv_bd (1000000 * 1000000) (grow y (part y left days).1 (part y left days).2 n).1 (by omega)).1
    have r1 : (grow y (part y left days).1 (part y left days).2 (n + 1)).2 = cdv ((grow y (part y left days).1 (part y left days).2 n).2 * (1000000 + y)) 1000000 := rfl
    have r2 : (disc y left days (n + 1)).1 = 1000000 * 1000000 / (grow y (part y left days).1 (part y left days).2 (n + 1)).2 := rfl
    have r3 : (disc y left days n).2 = cdv (1000000 * 1000000) (grow y (part y left days).1 (part y left days).2 n).1 := rfl
    rw [← r2] at a1
    rw [← r1] at a2
    rw [← r3] at a3
    have q0 : 0 ≤ (disc y left days (n + 1)).1 := by omega
    have q1 : 0 ≤ (disc y left days n).2 := by omega
    generalize (disc y left days (n + 1)).1 = X at *
    generalize (disc y left days n).2 = Y at *
    generalize (grow y (part y left days).1 (part y left days).2 n).1 = L at *
    generalize (grow y (part y left days).1 (part y left days).2 n).2 = H at *
    generalize (grow y (part y left days).1 (part y left days).2 (n + 1)).2 = H' at *
    generalize 1000000 + y = m at *
    -- X * m ≤ M * Y, as H * (X * m) ≤ X * (M * H') ≤ M * (M * M) ≤ M * (L * Y) ≤ M * (H * Y)
    refine dv_le (by omega) ?_
    have b1 : X * (H * m) ≤ X * (1000000 * H') := Int.mul_le_mul_of_nonneg_left a2 q0
    have b2 : L * Y ≤ H * Y := Int.mul_le_mul_of_nonneg_right g.2.1 q1
    have b3 : H * (X * m) = X * (H * m) := Int.mul_left_comm H X m
    have b4 : X * (1000000 * H') = 1000000 * (H' * X) := by rw [Int.mul_left_comm, Int.mul_comm X H']
    have b5 : H * (X * m) ≤ H * (1000000 * Y) := by
      rw [Int.mul_left_comm H 1000000 Y]
      omega
    exact Int.le_of_mul_le_mul_left b5 (by omega)
  · show _ ≤ mulHi _ _ _ _
    rw [hi]
    have a1 := (cdv_bd (1000000 * 1000000) (grow y (part y left days).1 (part y left days).2 (n + 1)).1 (by omega)).1
    have a2 := (dv ((grow y (part y left days).1 (part y left days).2 n).1 * (1000000 + y)) 1000000 (by omega)).1
    have a3 := (dv (1000000 * 1000000) (grow y (part y left days).1 (part y left days).2 n).2 (by omega)).1
    have r1 : (grow y (part y left days).1 (part y left days).2 (n + 1)).1 = (grow y (part y left days).1 (part y left days).2 n).1 * (1000000 + y) / 1000000 := rfl
    have r2 : (disc y left days (n + 1)).2 = cdv (1000000 * 1000000) (grow y (part y left days).1 (part y left days).2 (n + 1)).1 := rfl
    have r3 : (disc y left days n).1 = 1000000 * 1000000 / (grow y (part y left days).1 (part y left days).2 n).2 := rfl
    rw [← r2] at a1
    rw [← r1] at a2
    rw [← r3] at a3
    have q0 : 0 ≤ (disc y left days (n + 1)).2 := by omega
    have q1 : 0 ≤ (disc y left days n).1 := by omega
    generalize (disc y left days (n + 1)).2 = X at *
    generalize (disc y left days n).1 = Y at *
    generalize (grow y (part y left days).1 (part y left days).2 n).1 = L at *
    generalize (grow y (part y left days).1 (part y left days).2 n).2 = H at *
    generalize (grow y (part y left days).1 (part y left days).2 (n + 1)).1 = L' at *
    generalize 1000000 + y = m at *
    -- M * Y ≤ X * m, as L * (M * Y) ≤ M * (H * Y) ≤ M * (M * M) ≤ M * (L' * X) ≤ (L * m) * X
    refine le_cdv (by omega) ?_
    have b1 : (1000000 * L') * X ≤ (L * m) * X := Int.mul_le_mul_of_nonneg_right a2 q0
    have b2 : L * Y ≤ H * Y := Int.mul_le_mul_of_nonneg_right g.2.1 q1
    have b3 : (L * m) * X = L * (X * m) := by rw [Int.mul_assoc, Int.mul_comm m X]
    have b4 : (1000000 * L') * X = 1000000 * (L' * X) := Int.mul_assoc _ _ _
    have b5 : L * (1000000 * Y) ≤ L * (X * m) := by
      rw [Int.mul_left_comm L 1000000 Y]
      omega
    exact Int.le_of_mul_le_mul_left b5 (by omega)
end Go.Proofs.YtomhnfajnbhaoaaDoor.Rng

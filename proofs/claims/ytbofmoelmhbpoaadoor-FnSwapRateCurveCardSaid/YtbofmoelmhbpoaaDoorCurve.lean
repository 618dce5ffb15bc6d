/-
  Curves as lists of pairs of whole numbers, without Go: sums of bounds, the values that rates imply, and their bounds. Conditions: they stand in each theorem.
-/
import Derived.Test.YtbofmoelmhbpoaaDoorRng
namespace Go.Proofs.YtbofmoelmhbpoaaDoor.Rng
open Go.RowKit
set_option linter.unusedVariables false

/-- The sums of the low bounds and of the high bounds of the first ranges. -/
def sL (c : List (Int × Int)) : Nat → Int
  | 0 => 0
  | j + 1 => sL c j + (c.getD j (0, 0)).1
def sH (c : List (Int × Int)) : Nat → Int
  | 0 => 0
  | j + 1 => sH c j + (c.getD j (0, 0)).2
/-- A curve's ranges. -/
def okC (p : Int × Int) : Prop := 0 < p.1 ∧ p.1 ≤ p.2 ∧ p.2 ≤ 1000000
theorem okC_R {p : Int × Int} (h : okC p) : okR p.1 p.2 = true := okR_of h.2.1 (by have := h.1; omega) (by have := h.2.2; omega)
def okCs (c : List (Int × Int)) : Prop := ∀ j, j < c.length → okC (c.getD j (0, 0))
theorem sLH_bd {c : List (Int × Int)} (h : okCs c) : ∀ j, j ≤ c.length → (j : Int) ≤ sL c j ∧ sL c j ≤ sH c j ∧ sH c j ≤ 1000000 * j
  | 0, _ => by simp [sL, sH]
  | j + 1, hj => by
    have i := sLH_bd h j (by omega)
    have k := h j (by omega)
    obtain ⟨k1, k2, k3⟩ := k
    show _ ≤ sL c j + _ ∧ sL c j + _ ≤ sH c j + _ ∧ sH c j + _ ≤ _
    omega
theorem getD_app {α : Type} (c : List α) (v d : α) (j : Nat) (h : j < c.length) : (c ++ [v]).getD j d = c.getD j d := by
  simp [List.getD, List.getElem?_append_left h]
theorem getD_last {α : Type} (c : List α) (v d : α) : (c ++ [v]).getD c.length d = v := by
  simp [List.getD]
theorem getD_take {α : Type} (c : List α) (d : α) (j n : Nat) (h : j < n) : (c.take n).getD j d = c.getD j d := by
  simp [List.getD, h]
theorem sL_app (c : List (Int × Int)) (v : Int × Int) : ∀ j, j ≤ c.length → sL (c ++ [v]) j = sL c j
  | 0, _ => rfl
  | j + 1, h => by
    show sL (c ++ [v]) j + _ = sL c j + _
    rw [sL_app c v j (by omega), getD_app c v _ j (by omega)]
theorem sH_app (c : List (Int × Int)) (v : Int × Int) : ∀ j, j ≤ c.length → sH (c ++ [v]) j = sH c j
  | 0, _ => rfl
  | j + 1, h => by
    show sH (c ++ [v]) j + _ = sH c j + _
    rw [sH_app c v j (by omega), getD_app c v _ j (by omega)]

/-- The value after one year more, from the sums of the values before. -/
def stepR (r sl sh : Int) : Option (Int × Int) :=
  if 1000000 - cdv (100 * r * sh) 1000000 ≤ 0 then none
  else if divLo (1000000 - cdv (100 * r * sh) 1000000) (1000000 + 100 * r) ≤ 0 then none
  else some (divLo (1000000 - cdv (100 * r * sh) 1000000) (1000000 + 100 * r), divHi (1000000 - 100 * r * sl / 1000000) (1000000 + 100 * r))
theorem stepR_rest {r sl sh : Int} (h0 : 0 ≤ r) (hs : 0 ≤ sl) (hss : sl ≤ sh) : 0 ≤ 100 * r * sl / 1000000 ∧ 100 * r * sl / 1000000 ≤ cdv (100 * r * sh) 1000000 := by
  have e0 := Int.mul_nonneg (show 0 ≤ 100 * r by omega) hs
  have e1 := Int.mul_le_mul_of_nonneg_left hss (show 0 ≤ 100 * r by omega)
  exact ⟨Int.ediv_nonneg e0 (by omega), Int.le_trans (dv_mono (by omega) e1) (dv_le_cdv _ _ (by omega))⟩
theorem stepR_ok {r sl sh : Int} {v : Int × Int} (h0 : 0 ≤ r) (h1 : r ≤ 3000) (hs : 0 ≤ sl) (hss : sl ≤ sh) (h : stepR r sl sh = some v) :
    okC v ∧ 0 < 1000000 - cdv (100 * r * sh) 1000000 ∧ v.1 = divLo (1000000 - cdv (100 * r * sh) 1000000) (1000000 + 100 * r) ∧ v.2 = divHi (1000000 - 100 * r * sl / 1000000) (1000000 + 100 * r) := by
  have e := stepR_rest h0 hs hss
  unfold stepR at h
  by_cases c1 : 1000000 - cdv (100 * r * sh) 1000000 ≤ 0
  · rw [if_pos c1] at h
    cases h
  rw [if_neg c1] at h
  by_cases c2 : divLo (1000000 - cdv (100 * r * sh) 1000000) (1000000 + 100 * r) ≤ 0
  · rw [if_pos c2] at h
    cases h
  rw [if_neg c2] at h
  obtain rfl := Option.some.inj h
  refine ⟨⟨by show 0 < divLo _ _; omega, divLo_le_Hi (by omega) (by omega) (by omega) (Int.le_refl _), ?_⟩, by omega, rfl, rfl⟩
  refine cdv_le (by omega) ?_
  omega
/-- The bond that pays the rate is worth 1. -/
theorem stepR_par {r sl sh : Int} {v : Int × Int} (h0 : 0 ≤ r) (h1 : r ≤ 3000) (hs : 0 ≤ sl) (hss : sl ≤ sh) (h : stepR r sl sh = some v) :
    100 * r * (sl + v.1) / 1000000 + v.1 ≤ 1000000 ∧ 1000000 ≤ cdv (100 * r * (sh + v.2)) 1000000 + v.2 := by
  obtain ⟨⟨v1, v2, v3⟩, p, e1, e2⟩ := stepR_ok h0 h1 hs hss h
  have a1 := (dv ((1000000 - cdv (100 * r * sh) 1000000) * 1000000) (1000000 + 100 * r) (by omega)).1
  have a2 := (cdv_bd ((1000000 - 100 * r * sl / 1000000) * 1000000) (1000000 + 100 * r) (by omega)).1
  have a3 := (cdv_bd (100 * r * sh) 1000000 (by omega)).1
  have a4 := (dv (100 * r * sl) 1000000 (by omega)).1
  have r1 : (1000000 - cdv (100 * r * sh) 1000000) * 1000000 / (1000000 + 100 * r) = v.1 := e1.symm
  have r2 : cdv ((1000000 - 100 * r * sl / 1000000) * 1000000) (1000000 + 100 * r) = v.2 := e2.symm
  rw [r1] at a1
  rw [r2] at a2
  have m := Int.mul_le_mul_of_nonneg_left hss (show 0 ≤ 100 * r by omega)
  generalize v.1 = x at *
  generalize v.2 = y at *
  generalize cdv (100 * r * sh) 1000000 = R at *
  generalize 100 * r * sl / 1000000 = Q at *
  rw [Int.add_mul] at a1 a2
  constructor
  · have : 100 * r * (sl + x) / 1000000 ≤ 1000000 - x := by
      refine dv_le (by omega) ?_
      rw [Int.mul_add]
      omega
    omega
  · have : 1000000 - y ≤ cdv (100 * r * (sh + y)) 1000000 := by
      refine le_cdv (by omega) ?_
      rw [Int.mul_add]
      omega
    omega
/-- The rate lies in the swap rate of the curve. -/
theorem stepR_swap {r sl sh : Int} {v : Int × Int} (h0 : 0 ≤ r) (h1 : r ≤ 3000) (hs : 0 ≤ sl) (hss : sl ≤ sh) (h : stepR r sl sh = some v) :
    divLo (1000000 - v.2) (sh + v.2) ≤ 100 * r ∧ 100 * r ≤ divHi (1000000 - v.1) (sl + v.1) := by
  obtain ⟨⟨v1, v2, v3⟩, p, e1, e2⟩ := stepR_ok h0 h1 hs hss h
  have a1 := (dv ((1000000 - cdv (100 * r * sh) 1000000) * 1000000) (1000000 + 100 * r) (by omega)).1
  have a2 := (cdv_bd ((1000000 - 100 * r * sl / 1000000) * 1000000) (1000000 + 100 * r) (by omega)).1
  have a3 := (cdv_bd (100 * r * sh) 1000000 (by omega)).1
  have a4 := (dv (100 * r * sl) 1000000 (by omega)).1
  have r1 : (1000000 - cdv (100 * r * sh) 1000000) * 1000000 / (1000000 + 100 * r) = v.1 := e1.symm
  have r2 : cdv ((1000000 - 100 * r * sl / 1000000) * 1000000) (1000000 + 100 * r) = v.2 := e2.symm
  rw [r1] at a1
  rw [r2] at a2
  have m := Int.mul_le_mul_of_nonneg_left hss (show 0 ≤ 100 * r by omega)
  generalize v.1 = x at *
  generalize v.2 = y at *
  generalize cdv (100 * r * sh) 1000000 = R at *
  generalize 100 * r * sl / 1000000 = Q at *
  rw [Int.add_mul] at a1 a2
  constructor
  · refine dv_le (by omega) ?_
    rw [Int.mul_comm (sh + y), Int.mul_add]
    omega
  · refine le_cdv (by omega) ?_
    rw [Int.mul_comm (sl + x), Int.mul_add]
    omega
theorem stepR_flat {sl sh : Int} : stepR 0 sl sh = some (1000000, 1000000) := by
  have e1 : cdv (100 * 0 * sh) 1000000 = 0 := by rw [show (100 : Int) * 0 = 0 from rfl, Int.zero_mul]; decide
  have e2 : (100 * 0 * sl) / 1000000 = 0 := by rw [show (100 : Int) * 0 = 0 from rfl, Int.zero_mul]; decide
  unfold stepR
  rw [e1, e2]
  decide
/-- A higher first rate: less. -/
theorem stepR_first {r : Int} (h0 : 0 ≤ r) (h1 : r ≤ 3000) : stepR r 0 0 = some (divLo 1000000 (1000000 + 100 * r), divHi 1000000 (1000000 + 100 * r)) := by
  have e1 : cdv (100 * r * 0) 1000000 = 0 := by rw [Int.mul_zero]; decide
  have e2 : (100 * r * 0) / 1000000 = 0 := by rw [Int.mul_zero]; decide
  have e3 : 1 ≤ divLo 1000000 (1000000 + 100 * r) := le_dv (by omega) (by omega)
  unfold stepR
  rw [e1, e2, if_neg (by omega), if_neg (by rw [show (1000000 : Int) - 0 = 1000000 from rfl]; omega)]
  rfl

/-- The values after the first years. -/
def curSt (rates : List Int) : Nat → Option (List (Int × Int))
  | 0 => some []
  | i + 1 => (curSt rates i).bind fun out => (stepR (rates.getD i 0) (sL out i) (sH out i)).bind fun v => some (out ++ [v])
theorem curSt_succ (rates : List Int) (i : Nat) : curSt rates (i + 1) = (curSt rates i).bind fun out => (stepR (rates.getD i 0) (sL out i) (sH out i)).bind fun v => some (out ++ [v]) := rfl
theorem curSt_dead {rates : List Int} {i : Nat} (h : curSt rates i = none) : ∀ d, curSt rates (i + d) = none
  | 0 => h
  | d + 1 => by
    show curSt rates ((i + d) + 1) = none
    rw [curSt_succ, curSt_dead h d]
    rfl
def okRates (rates : List Int) : Prop := ∀ j, j < rates.length → 0 ≤ rates.getD j 0 ∧ rates.getD j 0 ≤ 3000
theorem curSt_ok {rates : List Int} (h : okRates rates) : ∀ i out, i ≤ rates.length → curSt rates i = some out → out.length = i ∧ okCs out
  | 0, out, _, he => by
    obtain rfl := Option.some.inj he
    exact ⟨rfl, fun j hj => absurd hj (by simp)⟩
  | i + 1, out, hi, he => by
    rw [curSt_succ] at he
    obtain ⟨o, ho, he⟩ := Option.bind_eq_some_iff.1 he
    obtain ⟨v, hv, he⟩ := Option.bind_eq_some_iff.1 he
    obtain rfl := Option.some.inj he
    obtain ⟨hl, hc⟩ := curSt_ok h i o (by omega) ho
    have b := sLH_bd hc i (by omega)
    have r := h i (by omega)
    obtain ⟨k, _⟩ := stepR_ok r.1 r.2 (by omega) b.2.1 hv
    refine ⟨by simp [hl], fun j hj => ?_⟩
    rcases Nat.lt_or_ge j o.length with g | g
    · rw [getD_app o v _ j g]
      exact hc j g
    · have : j = o.length := by simp at hj; omega
      subst this
      rw [getD_last]
      exact k
/-- What stands at year j: the step from the sums before. -/
theorem curSt_at {rates : List Int} (h : okRates rates) : ∀ i out, i ≤ rates.length → curSt rates i = some out → ∀ j, j < i → curSt rates j = some (out.take j) ∧ stepR (rates.getD j 0) (sL out j) (sH out j) = some (out.getD j (0, 0))
  | 0, out, _, _, j, hj => absurd hj (by omega)
  | i + 1, out, hi, he, j, hj => by
    rw [curSt_succ] at he
    obtain ⟨o, ho, he⟩ := Option.bind_eq_some_iff.1 he
    obtain ⟨v, hv, he⟩ := Option.bind_eq_some_iff.1 he
    obtain rfl := Option.some.inj he
    obtain ⟨hl, hc⟩ := curSt_ok h i o (by omega) ho
    rcases Nat.lt_or_ge j i with g | g
    · obtain ⟨a, b⟩ := curSt_at h i o (by omega) ho j g
      rw [sL_app o v j (by omega), sH_app o v j (by omega), getD_app o v _ j (by omega), List.take_append_of_le_length (by omega)]
      exact ⟨a, b⟩
    · have e : j = o.length := by omega
      rw [e, sL_app o v _ (Nat.le_refl _), sH_app o v _ (Nat.le_refl _), getD_last, List.take_left', hl]
      · exact ⟨ho, hv⟩
      · rfl
theorem curSt_prefix (rates : List Int) (n : Nat) : ∀ j, j ≤ n → curSt (rates.take n) j = curSt rates j
  | 0, _ => rfl
  | j + 1, h => by rw [curSt_succ, curSt_succ, curSt_prefix rates n j (by omega), getD_take rates 0 j n (by omega)]
theorem curSt_flat (n : Nat) : ∀ j, curSt (List.replicate n 0) j = some (List.replicate j (1000000, 1000000))
  | 0 => rfl
  | j + 1 => by
    have e : (List.replicate n (0 : Int)).getD j 0 = 0 := by
      simp only [List.getD, List.getElem?_replicate]
      split <;> rfl
    rw [curSt_succ, curSt_flat n j, Option.bind_some, e, stepR_flat, Option.bind_some, ← List.replicate_succ']
end Go.Proofs.YtbofmoelmhbpoaaDoor.Rng

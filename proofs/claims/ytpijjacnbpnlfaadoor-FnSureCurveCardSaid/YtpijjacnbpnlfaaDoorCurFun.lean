/-
  What the printed Lean functions on curves are, over lists of pairs: validity, certain fall, forward rates, values between years. Conditions: they stand in each theorem.
-/
import Derived.Test.YtpijjacnbpnlfaaDoorQx10
import Derived.Test.YtpijjacnbpnlfaaDoorQx11
import Derived.Test.YtpijjacnbpnlfaaDoorQx14
import Derived.Test.YtpijjacnbpnlfaaDoorQx17
import Derived.Test.YtpijjacnbpnlfaaDoorQx2
import Derived.Test.YtpijjacnbpnlfaaDoorQx5
import Derived.Test.YtpijjacnbpnlfaaDoorQx9
import Derived.Test.YtpijjacnbpnlfaaDoorRngDiv
import Derived.Test.YtpijjacnbpnlfaaDoorRngFl
import Derived.Test.YtpijjacnbpnlfaaDoorCurBase
namespace Go.Proofs.YtpijjacnbpnlfaaDoor.Rng
open Go.RowKit Go.Proofs.YtpijjacnbpnlfaaDoor.Q Go.Proofs.YtpijjacnbpnlfaaDoorW.PrintWords Go.Proofs.YtpijjacnbpnlfaaDoorW.PrintLast

noncomputable instance decCurve (c : List (Int × Int)) : Decidable (okCurve c) := Classical.propDecidable _
theorem okC_iff (p : Int × Int) : okC p ↔ okR p.1 p.2 = true ∧ ¬ p.1 ≤ 0 ∧ ¬ p.2 > 1000000 := by
  constructor
  · intro h
    have k := okC_R h
    obtain ⟨h1, h2, h3⟩ := h
    exact ⟨k, by omega, by omega⟩
  · rintro ⟨h1, h2, h3⟩
    have k := okR_iff.1 h1
    exact ⟨by omega, by omega, by omega⟩
theorem okCs_of {c : List SR} {i : Nat} (h : ∀ j, j < i → okC ((ps c).getD j (0, 0))) (hi : okC ((ps c).getD i (0, 0))) : ∀ j, j < i + 1 → okC ((ps c).getD j (0, 0)) := fun j hj => by
  rcases Nat.lt_or_ge j i with g | g
  · exact h j g
  · rw [show j = i by omega]
    exact hi
theorem impl_cv_loop (c : List SR) (hl : c.length ≤ 1048576) : ∀ (d i k : Nat), i + d = c.length → d < k → (∀ j, j < i → okC ((ps c).getD j (0, 0))) → impl_curveValid.l0 k c c (c.length : Int) (i : Int) = some (decide (okCurve (ps c)))
  | 0, i, k, hi, hk, h => by
    obtain ⟨k, rfl⟩ : ∃ m, k = m + 1 := ⟨k - 1, by omega⟩
    simp only [impl_curveValid.l0]
    rw [if_neg (by omega), within_eq]
    simp only [Option.bind_some]
    have hc : okCs (ps c) := fun j hj => h j (by rw [ps_length] at hj; omega)
    refine congrArg some (decide_eq_decide.2 ⟨fun e => ⟨hc, by rw [ps_length]; omega, by rw [ps_length]; omega⟩, fun e => ?_⟩)
    have e1 := e.2.1
    have e2 := e.2.2
    rw [ps_length] at e1 e2
    omega
  | d + 1, i, k, hi, hk, h => by
    obtain ⟨k, rfl⟩ : ∃ m, k = m + 1 := ⟨k - 1, by omega⟩
    simp only [impl_curveValid.l0]
    rw [if_pos (by omega), if_pos (by omega), if_pos (by omega), rd0, rd1, show ((i : Int)).toNat = i by omega, impl_valid]
    simp only [Option.bind_some]
    by_cases q : okC ((ps c).getD i (0, 0))
    · obtain ⟨q1, q2, q3⟩ := (okC_iff _).1 q
      rw [if_pos q1, if_neg q2, if_neg q3, w64 (by omega) (by omega), show (i : Int) + 1 = ((i + 1 : Nat) : Int) by omega]
      exact impl_cv_loop c hl d (i + 1) k (by omega) (by omega) (okCs_of h q)
    · have no : decide (okCurve (ps c)) = false := decide_eq_false (fun e => q (e.1 i (by rw [ps_length]; omega)))
      rw [no]
      by_cases q1 : okR ((ps c).getD i (0, 0)).1 ((ps c).getD i (0, 0)).2 = true
      · rw [if_pos q1]
        by_cases q2 : ((ps c).getD i (0, 0)).1 ≤ 0
        · rw [if_pos q2]
        · rw [if_neg q2]
          by_cases q3 : ((ps c).getD i (0, 0)).2 > 1000000
          · rw [if_pos q3]
          · exact absurd ((okC_iff _).2 ⟨q1, q2, q3⟩) q
      · rw [if_neg q1]
theorem impl_cv (k : Nat) (c : List SR) (hl : c.length ≤ 1048576) (hk : c.length < k) : impl_curveValid.f k c = some (decide (okCurve (ps c))) := by
  unfold impl_curveValid.f
  exact impl_cv_loop c hl c.length 0 k (by omega) hk (fun j hj => absurd hj (by omega))
theorem spec_cv_loop (c : List SR) (hl : c.length ≤ 1048576) : ∀ (d i k : Nat), i + d = c.length → d < k → (∀ j, j < i → okC ((ps c).getD j (0, 0))) → spec_validCurve.l0 k c (i : Int) = some (decide (okCurve (ps c)))
  | 0, i, k, hi, hk, h => by
    obtain ⟨k, rfl⟩ : ∃ m, k = m + 1 := ⟨k - 1, by omega⟩
    simp only [spec_validCurve.l0]
    rw [if_neg (by omega), inRange_eq]
    simp only [Option.bind_some]
    have hc : okCs (ps c) := fun j hj => h j (by rw [ps_length] at hj; omega)
    refine congrArg some (decide_eq_decide.2 ⟨fun e => ⟨hc, by rw [ps_length]; omega, by rw [ps_length]; omega⟩, fun e => ?_⟩)
    have e1 := e.2.1
    have e2 := e.2.2
    rw [ps_length] at e1 e2
    omega
  | d + 1, i, k, hi, hk, h => by
    obtain ⟨k, rfl⟩ : ∃ m, k = m + 1 := ⟨k - 1, by omega⟩
    simp only [spec_validCurve.l0]
    rw [if_pos (by omega), if_pos (by omega), rd0, rd1, show ((i : Int)).toNat = i by omega, spec_valid]
    simp only [Option.bind_some]
    by_cases q : okC ((ps c).getD i (0, 0))
    · obtain ⟨q1, q2, q3⟩ := (okC_iff _).1 q
      rw [if_pos q1, if_neg q2, if_neg q3, w64 (by omega) (by omega), show (i : Int) + 1 = ((i + 1 : Nat) : Int) by omega]
      exact spec_cv_loop c hl d (i + 1) k (by omega) (by omega) (okCs_of h q)
    · have no : decide (okCurve (ps c)) = false := decide_eq_false (fun e => q (e.1 i (by rw [ps_length]; omega)))
      rw [no]
      by_cases q1 : okR ((ps c).getD i (0, 0)).1 ((ps c).getD i (0, 0)).2 = true
      · rw [if_pos q1]
        by_cases q2 : ((ps c).getD i (0, 0)).1 ≤ 0
        · rw [if_pos q2]
        · rw [if_neg q2]
          by_cases q3 : ((ps c).getD i (0, 0)).2 > 1000000
          · rw [if_pos q3]
          · exact absurd ((okC_iff _).2 ⟨q1, q2, q3⟩) q
      · rw [if_neg q1]
theorem spec_cv (k : Nat) (c : List SR) (hl : c.length ≤ 1048576) (hk : c.length < k) : spec_validCurve.f k c = some (decide (okCurve (ps c))) := by
  unfold spec_validCurve.f
  exact spec_cv_loop c hl c.length 0 k (by omega) hk (fun j hj => absurd hj (by omega))
/-- A curve that certainly falls. -/
def sureP (c : List (Int × Int)) : Prop := okCurve c ∧ ∀ j, 1 ≤ j → j < c.length → (c.getD j (0, 0)).2 ≤ (c.getD (j - 1) (0, 0)).1
noncomputable instance decSure (c : List (Int × Int)) : Decidable (sureP c) := Classical.propDecidable _
theorem impl_sure_loop (c : List SR) (hl : c.length ≤ 1048576) : ∀ (d i k : Nat), c.length ≤ i + d → 1 ≤ i → i ≤ c.length + 1 → d + c.length + 2 < k → (∀ j, 1 ≤ j → j < i → j < c.length → ((ps c).getD j (0, 0)).2 ≤ ((ps c).getD (j - 1) (0, 0)).1) → impl_SureCurve.l0 k c (i : Int) = some (decide (sureP (ps c)))
  | d, i, k, hd, h1, hi, hk, h => by
    obtain ⟨k, rfl⟩ : ∃ m, k = m + 1 := ⟨k - 1, by omega⟩
    simp only [impl_SureCurve.l0]
    by_cases g : i < c.length
    · match d, hd, hk with
      | 0, hd, _ => exact absurd hd (by omega)
      | d + 1, hd, hk =>
        rw [if_pos (by omega), if_pos (by omega), w64 (n := (i : Int) - 1) (by omega) (by omega), if_pos (by omega), if_pos (by omega), rd1, rd0, show ((i : Int)).toNat = i by omega, show ((i : Int) - 1).toNat = i - 1 by omega]
        by_cases q : ((ps c).getD i (0, 0)).2 > ((ps c).getD (i - 1) (0, 0)).1
        · rw [if_pos q, decide_eq_false (fun e => by have := e.2 i h1 (by rw [ps_length]; exact g); omega)]
        · rw [if_neg q, w64 (by omega) (by omega), show (i : Int) + 1 = ((i + 1 : Nat) : Int) by omega]
          refine impl_sure_loop c hl d (i + 1) k (by omega) (by omega) (by omega) (by omega) fun j j1 j2 j3 => ?_
          rcases Nat.lt_or_ge j i with e | e
          · exact h j j1 e j3
          · rw [show j = i by omega]
            omega
    · rw [if_neg (by omega), impl_cv k c hl (by omega)]
      simp only [Option.bind_some]
      exact congrArg some (decide_eq_decide.2 ⟨fun e => ⟨e, fun j j1 j2 => h j j1 (by rw [ps_length] at j2; omega) (by rw [ps_length] at j2; omega)⟩, fun e => e.1⟩)
theorem impl_sure (k : Nat) (c : List SR) (hl : c.length ≤ 1048576) (hk : 2 * c.length + 5 < k) : impl_SureCurve.f k c = some (decide (sureP (ps c))) := by
  unfold impl_SureCurve.f
  exact impl_sure_loop c hl c.length 1 k (by omega) (by omega) (by omega) (by omega) (fun j j1 j2 => absurd j2 (by omega))
theorem spec_sure_loop (c : List SR) (hc : okCurve (ps c)) (hl : c.length ≤ 1048576) : ∀ (d i k : Nat), c.length ≤ i + d → 1 ≤ i → i ≤ c.length + 1 → d < k → (∀ j, 1 ≤ j → j < i → j < c.length → ((ps c).getD j (0, 0)).2 ≤ ((ps c).getD (j - 1) (0, 0)).1) → spec_SureCurve.l0 k c (i : Int) = some (decide (sureP (ps c)))
  | d, i, k, hd, h1, hi, hk, h => by
    obtain ⟨k, rfl⟩ : ∃ m, k = m + 1 := ⟨k - 1, by omega⟩
    simp only [spec_SureCurve.l0]
    by_cases g : i < c.length
    · match d, hd, hk with
      | 0, hd, _ => exact absurd hd (by omega)
      | d + 1, hd, hk =>
        rw [if_pos (by omega), if_pos (by omega), w64 (n := (i : Int) - 1) (by omega) (by omega), if_pos (by omega), if_pos (by omega), rd1, rd0, show ((i : Int)).toNat = i by omega, show ((i : Int) - 1).toNat = i - 1 by omega]
        by_cases q : ((ps c).getD i (0, 0)).2 > ((ps c).getD (i - 1) (0, 0)).1
        · rw [if_pos q, decide_eq_false (fun e => by have := e.2 i h1 (by rw [ps_length]; exact g); omega)]
        · rw [if_neg q, w64 (by omega) (by omega), show (i : Int) + 1 = ((i + 1 : Nat) : Int) by omega]
          refine spec_sure_loop c hc hl d (i + 1) k (by omega) (by omega) (by omega) (by omega) fun j j1 j2 j3 => ?_
          rcases Nat.lt_or_ge j i with e | e
          · exact h j j1 e j3
          · rw [show j = i by omega]
            omega
    · rw [if_neg (by omega), decide_eq_true (show sureP (ps c) from ⟨hc, fun j j1 j2 => h j j1 (by rw [ps_length] at j2; omega) (by rw [ps_length] at j2; omega)⟩)]
theorem spec_sure (k : Nat) (c : List SR) (hl : c.length ≤ 1048576) (hk : 2 * c.length + 5 < k) : spec_SureCurve.f k c = some (decide (sureP (ps c))) := by
  unfold spec_SureCurve.f
  rw [spec_cv k c hl (by omega)]
  simp only [Option.bind_some]
  by_cases q : okCurve (ps c)
  · rw [if_pos (decide_eq_true q)]
    exact spec_sure_loop c q hl c.length 1 k (by omega) (by omega) (by omega) (by omega) (fun j j1 j2 => absurd j2 (by omega))
  · rw [if_neg (by simpa using q), decide_eq_false (fun e : sureP (ps c) => q e.1)]
theorem valueAfter_is (c : List SR) (n : Nat) (hl : c.length ≤ 1048576) (hn : n ≤ c.length) : impl_valueAfter.f c (n : Int) = some (after (ps c) n) := by
  unfold impl_valueAfter.f
  match n, hn with
  | 0, _ =>
    rw [if_pos (by omega), exactly_is]
    rfl
  | n + 1, hn =>
    rw [if_neg (by omega), w64 (by omega) (by omega), if_pos (by omega), if_pos (by omega), rd0, rd1, show (((n + 1 : Nat) : Int) - 1).toNat = n by omega, after_succ]
/-- The rate from a year to the next one, for all arguments. -/
noncomputable def fwdF (c : List SR) (k : Int) : Int × Int × Bool := if okCurve (ps c) ∧ 0 ≤ k ∧ k ≤ (c.length : Int) - 1 then ((fwd (ps c) k.toNat).1, (fwd (ps c) k.toNat).2, true) else (0, 0, false)
theorem impl_fwd (k : Nat) (c : List SR) (n : Int) (hl : c.length ≤ 1048576) (hk : c.length < k) : impl_ForwardOf.f k c n = some (fwdF c n) := by
  unfold impl_ForwardOf.f fwdF
  rw [impl_cv k c hl hk]
  simp only [Option.bind_some]
  by_cases q : okCurve (ps c)
  · rw [if_pos (decide_eq_true q), w64 (by omega) (by omega), within_eq]
    simp only [Option.bind_some]
    by_cases g : 0 ≤ n ∧ n ≤ (c.length : Int) - 1
    · obtain ⟨n, rfl⟩ := Int.eq_ofNat_of_zero_le g.1
      obtain ⟨a, b, e0, e1, e2⟩ := fwd_bd q (k := n) (by rw [ps_length]; omega)
      rw [if_pos (decide_eq_true g), if_pos ⟨q, g⟩]
      unfold impl_forward.f
      rw [valueAfter_is c n hl (by omega)]
      simp only [Option.bind_some]
      rw [if_pos (by omega), if_pos (by omega), rd0, rd1, show ((n : Int)).toNat = n by omega, ratio_is _ _ _ _ (okC_R a) (okC_R b) b.1]
      simp only [Option.bind_some]
      rw [w64 (by omega) (by omega), w64 (by omega) (by omega)]
      rfl
    · rw [if_neg (by simpa using g), if_neg (fun e => g e.2)]
  · rw [if_neg (by simpa using q), if_neg (fun e => q e.1)]
theorem spec_fwd (k : Nat) (c : List SR) (n : Int) (hl : c.length ≤ 1048576) (hk : c.length + 2 < k) : spec_ForwardOf.f k c n = some (fwdF c n) := by
  obtain ⟨k, rfl⟩ : ∃ m, k = m + 1 := ⟨k - 1, by omega⟩
  unfold spec_ForwardOf.f fwdF
  rw [spec_cv (k + 1) c hl (by omega)]
  simp only [Option.bind_some, spec_ForwardOf.j0]
  by_cases q : okCurve (ps c)
  · rw [if_pos (decide_eq_true q), w64 (by omega) (by omega), inRange_eq]
    simp only [Option.bind_some]
    by_cases g : 0 ≤ n ∧ n ≤ (c.length : Int) - 1
    · obtain ⟨n, rfl⟩ := Int.eq_ofNat_of_zero_le g.1
      obtain ⟨a, b, e0, e1, e2⟩ := fwd_bd q (k := n) (by rw [ps_length]; omega)
      rw [if_neg (by simp [g]), if_pos (show okCurve (ps c) ∧ 0 ≤ (n : Int) ∧ (n : Int) ≤ (c.length : Int) - 1 from ⟨q, g⟩), exact_is]
      simp only [Option.bind_some]
      match n, g, a, b, e0, e1, e2 with
      | 0, g, a, b, e0, e1, e2 =>
        rw [if_neg (by omega), if_pos (by omega), if_pos (by omega), rd0, rd1, show (((0 : Nat) : Int)).toNat = 0 from rfl, spec_divRange_is _ _ _ _ (by decide) (okC_R b) b.1]
        simp only [Option.bind_some]
        rw [after_zero] at e0 e1 e2
        replace e0 : 0 ≤ divLo 1000000 ((ps c).getD 0 (0, 0)).2 := e0
        replace e1 : divLo 1000000 ((ps c).getD 0 (0, 0)).2 ≤ divHi 1000000 ((ps c).getD 0 (0, 0)).1 := e1
        replace e2 : divHi 1000000 ((ps c).getD 0 (0, 0)).1 ≤ 1000000000000 := e2
        rw [w64 (by omega) (by omega), w64 (by omega) (by omega)]
        rfl
      | n + 1, g, a, b, e0, e1, e2 =>
        rw [if_pos (by omega), w64 (n := ((n + 1 : Nat) : Int) - 1) (by omega) (by omega), if_pos (by omega), if_pos (by omega), if_pos (by omega), if_pos (by omega), rd0, rd1, rd0, rd1, show (((n + 1 : Nat) : Int) - 1).toNat = n by omega, show (((n + 1 : Nat) : Int)).toNat = n + 1 by omega]
        rw [after_succ] at a e0 e1 e2
        rw [spec_divRange_is _ _ _ _ (okC_R a) (okC_R b) b.1]
        simp only [Option.bind_some]
        rw [w64 (by omega) (by omega), w64 (by omega) (by omega)]
        rfl
    · rw [if_pos (by simp; omega), if_neg (fun e => g e.2)]
  · rw [if_neg (by simpa using q), if_pos trivial, if_neg (fun e => q e.1)]
/-- The value of 1 after some months, for all arguments. -/
noncomputable def valF (c : List SR) (m : Int) : Int × Int × Bool := if okCurve (ps c) ∧ 0 ≤ m ∧ m ≤ 12 * (c.length : Int) then ((valV (ps c) (m / 12).toNat (m % 12)).1, (valV (ps c) (m / 12).toNat (m % 12)).2, true) else (0, 0, false)
theorem impl_val (k : Nat) (c : List SR) (m : Int) (hl : c.length ≤ 1048576) (hk : c.length + 2 < k) : impl_ValueAt.f k c m = some (valF c m) := by
  obtain ⟨k, rfl⟩ : ∃ n, k = n + 1 := ⟨k - 1, by omega⟩
  unfold impl_ValueAt.f valF
  rw [impl_cv (k + 1) c hl (by omega)]
  simp only [Option.bind_some, impl_ValueAt.j0]
  by_cases q : okCurve (ps c)
  · rw [if_pos (decide_eq_true q), w64 (n := 12 * (c.length : Int)) (by omega) (by omega), within_eq]
    simp only [Option.bind_some]
    by_cases g : 0 ≤ m ∧ m ≤ 12 * (c.length : Int)
    · rw [if_neg (by simp [g]), if_pos ⟨q, g⟩, Int.tdiv_eq_ediv_of_nonneg g.1, Int.tmod_eq_emod_of_nonneg g.1, w64 (n := m / 12) (by omega) (by omega)]
      obtain ⟨y, hy⟩ := Int.eq_ofNat_of_zero_le (show 0 ≤ m / 12 by omega)
      rw [hy, valueAfter_is c y hl (by omega), show ((y : Int)).toNat = y by omega]
      simp only [Option.bind_some]
      unfold valV
      by_cases r : m % 12 = 0
      · rw [if_pos r, if_pos r]
      · obtain ⟨a1, a2, a3⟩ := after_ok q.1 (show y ≤ (ps c).length by rw [ps_length]; omega)
        obtain ⟨b1, b2, b3⟩ := after_ok q.1 (show y + 1 ≤ (ps c).length by rw [ps_length]; omega)
        have e1 := valV_bd (a := (after (ps c) y).1) (b := (after (ps c) (y + 1)).1) (r := m % 12) (by omega) (by omega) (by omega) (by omega) (by omega) (by omega)
        have e2 := valV_bd (a := (after (ps c) y).2) (b := (after (ps c) (y + 1)).2) (r := m % 12) (by omega) (by omega) (by omega) (by omega) (by omega) (by omega)
        rw [if_neg r, if_neg r, if_pos (by omega), if_pos (by omega), rd0, rd1, show ((y : Int)).toNat = y by omega]
        rw [after_succ] at e1 e2
        have t0 : 0 ≤ m % 12 ∧ m % 12 < 12 := by omega
        generalize m % 12 = t at *
        rw [w64 (n := 12 - t) (by omega) (by omega), w64 (n := (12 - t) * (after (ps c) y).1) (by omega) (by omega), w64 (n := t * ((ps c).getD y (0, 0)).1) (by omega) (by omega), w64 (n := (12 - t) * (after (ps c) y).1 + t * ((ps c).getD y (0, 0)).1) (by omega) (by omega), floor_is _ _ (by omega) (by omega) (by omega)]
        simp only [Option.bind_some]
        rw [w64 (n := (12 - t) * (after (ps c) y).2) (by omega) (by omega), w64 (n := t * ((ps c).getD y (0, 0)).2) (by omega) (by omega), w64 (n := (12 - t) * (after (ps c) y).2 + t * ((ps c).getD y (0, 0)).2) (by omega) (by omega), ceil_is _ _ (by omega) (by omega) (by omega)]
        rfl
    · rw [if_pos (by simp; omega), if_neg (fun e => g e.2)]
  · rw [if_neg (by simpa using q), if_pos trivial, if_neg (fun e => q e.1)]
theorem spec_val (k : Nat) (c : List SR) (m : Int) (hl : c.length ≤ 1048576) (hk : c.length + 2 < k) : spec_ValueAt.f k c m = some (valF c m) := by
  obtain ⟨k, rfl⟩ : ∃ n, k = n + 1 := ⟨k - 1, by omega⟩
  unfold spec_ValueAt.f valF
  rw [spec_cv (k + 1) c hl (by omega)]
  simp only [Option.bind_some]
  by_cases q : okCurve (ps c)
  · rw [if_pos (decide_eq_true q), w64 (n := 12 * (c.length : Int)) (by omega) (by omega), inRange_eq]
    simp only [Option.bind_some]
    by_cases g : 0 ≤ m ∧ m ≤ 12 * (c.length : Int)
    · rw [if_pos (decide_eq_true g), if_pos ⟨q, g⟩]
      unfold spec_valueAt.f
      rw [exact_is, Int.tdiv_eq_ediv_of_nonneg g.1, Int.tmod_eq_emod_of_nonneg g.1, w64 (n := m / 12) (by omega) (by omega)]
      simp only [Option.bind_some, spec_valueAt.j0]
      obtain ⟨y, hy⟩ := Int.eq_ofNat_of_zero_le (show 0 ≤ m / 12 by omega)
      rw [hy, show ((y : Int)).toNat = y by omega]
      have key : ∀ a b : Int, (a, b) = after (ps c) y → (if m % 12 = 0 then some (a, b) else if 0 ≤ (y : Int) then if (y : Int) < (c.length : Int) then
          (spec_floorDiv.f (wrap64 (wrap64 (a * wrap64 (12 - m % 12)) + wrap64 ((rd_T30 c (y : Int)).f0 * (m % 12)))) 12).bind fun p => (spec_ceilDiv.f (wrap64 (wrap64 (b * wrap64 (12 - m % 12)) + wrap64 ((rd_T30 c (y : Int)).f1 * (m % 12)))) 12).bind fun r => some (p, r) else none else none) = some (valV (ps c) y (m % 12)) := by
        intro a b hab
        unfold valV
        by_cases r : m % 12 = 0
        · rw [if_pos r, if_pos r, hab]
        · obtain ⟨a1, a2, a3⟩ := after_ok q.1 (show y ≤ (ps c).length by rw [ps_length]; omega)
          obtain ⟨b1, b2, b3⟩ := after_ok q.1 (show y + 1 ≤ (ps c).length by rw [ps_length]; omega)
          have e1 := valV_bd (a := (after (ps c) y).1) (b := (after (ps c) (y + 1)).1) (r := m % 12) (by omega) (by omega) (by omega) (by omega) (by omega) (by omega)
          have e2 := valV_bd (a := (after (ps c) y).2) (b := (after (ps c) (y + 1)).2) (r := m % 12) (by omega) (by omega) (by omega) (by omega) (by omega) (by omega)
          rw [if_neg r, if_neg r, if_pos (by omega), if_pos (by omega), rd0, rd1, show ((y : Int)).toNat = y by omega]
          rw [after_succ] at e1 e2 ⊢
          rw [← hab] at e1 e2 ⊢
          have t0 : 0 ≤ m % 12 ∧ m % 12 < 12 := by omega
          generalize m % 12 = t at *
          show ((spec_floorDiv.f _ 12).bind fun p => (spec_ceilDiv.f _ 12).bind fun r => some (p, r)) = some (((12 - t) * a + t * ((ps c).getD y (0, 0)).1) / 12, cdv ((12 - t) * b + t * ((ps c).getD y (0, 0)).2) 12)
          have e1' : 0 ≤ (12 - t) * a ∧ (12 - t) * a ≤ 12000000 ∧ 0 ≤ t * ((ps c).getD y (0, 0)).1 ∧ t * ((ps c).getD y (0, 0)).1 ≤ 12000000 := e1
          have e2' : 0 ≤ (12 - t) * b ∧ (12 - t) * b ≤ 12000000 ∧ 0 ≤ t * ((ps c).getD y (0, 0)).2 ∧ t * ((ps c).getD y (0, 0)).2 ≤ 12000000 := e2
          rw [w64 (n := 12 - t) (by omega) (by omega), Int.mul_comm a, Int.mul_comm b, Int.mul_comm ((ps c).getD y (0, 0)).1, Int.mul_comm ((ps c).getD y (0, 0)).2]
          rw [w64 (n := (12 - t) * a) (by omega) (by omega), w64 (n := t * ((ps c).getD y (0, 0)).1) (by omega) (by omega), w64 (n := (12 - t) * a + t * ((ps c).getD y (0, 0)).1) (by omega) (by omega), floorDiv_is _ _ (by omega) (by omega) (by omega)]
          simp only [Option.bind_some]
          rw [w64 (n := (12 - t) * b) (by omega) (by omega), w64 (n := t * ((ps c).getD y (0, 0)).2) (by omega) (by omega), w64 (n := (12 - t) * b + t * ((ps c).getD y (0, 0)).2) (by omega) (by omega), ceilDiv_is _ _ (by omega) (by omega) (by omega)]
          rfl
      match y, hy, key with
      | 0, hy, key =>
        rw [if_neg (by omega)]
        exact congrArg (fun x : Option (Int × Int) => x.bind fun bt => some (bt.1, bt.2, true)) (key 1000000 1000000 rfl)
      | y + 1, hy, key =>
        rw [if_pos (by omega), w64 (n := ((y + 1 : Nat) : Int) - 1) (by omega) (by omega), if_pos (by omega), if_pos (by omega)]
        refine congrArg (fun x : Option (Int × Int) => x.bind fun bt => some (bt.1, bt.2, true)) (key _ _ ?_)
        rw [rd0, rd1, show (((y + 1 : Nat) : Int) - 1).toNat = y by omega]
        rfl
    · rw [if_neg (by simpa using g), if_neg (fun e => g e.2)]
  · rw [if_neg (by simpa using q), if_neg (fun e => q e.1)]
end Go.Proofs.YtpijjacnbpnlfaaDoor.Rng

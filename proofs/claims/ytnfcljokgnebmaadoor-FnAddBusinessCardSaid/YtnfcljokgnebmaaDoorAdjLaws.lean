/-
  AdjustDay of the reference (printed Lean functions) comes to the plain 'adjustP'. Conditions: lists shorter than 2^20.
-/
import Derived.Test.YtnfcljokgnebmaaDoorQx17
import Derived.Test.YtnfcljokgnebmaaDoorExtAdj
namespace Go.Proofs.YtnfcljokgnebmaaDoor.Pure
open Go.RowKit Go.Proofs.YtnfcljokgnebmaaDoor.Q Go.Proofs.YtnfcljokgnebmaaDoorW.PrintWords Go.Proofs.YtnfcljokgnebmaaDoorW.PrintLast Go.Proofs.YtnfcljokgnebmaaDoor.Biz

theorem specAdjust_eq (l : List Int) (n rule : Int) (hl : l.length ≤ 1048576) (k : Nat) (hk : 40000 + 2 * l.length < k) : spec_AdjustDay.f k l n rule = some (adjustP l n rule) := by
  unfold spec_AdjustDay.f adjustP
  rw [validHol_eq l (by omega) k (by omega)]
  simp only [Option.bind_some]
  by_cases hv : holOk l = true
  · rw [if_pos hv, inRange_eq]
    simp only [Option.bind_some]
    by_cases h : 0 ≤ n ∧ n ≤ 36524
    · rw [if_pos (by simp; omega), inRange_eq, if_pos ⟨hv, dayV_yes h.1 h.2⟩]
      simp only [Option.bind_some]
      by_cases hr : 0 ≤ rule ∧ rule ≤ 3
      · rw [if_pos (by simp; omega)]
        unfold spec_adjust.f
        by_cases r1 : rule = 1
        · subst r1
          rw [if_pos rfl, seek_up_eq l (by omega) n k h.1 (by omega) (by omega)]
          rfl
        rw [if_neg r1]
        by_cases r2 : rule = 2
        · subst r2
          rw [if_pos rfl, seek_dn_eq l (by omega) n k (by omega) h.2 (by omega)]
          rfl
        rw [if_neg r2]
        by_cases r3 : rule = 3
        · subst r3
          rw [if_pos rfl, seek_up_eq l (by omega) n k h.1 (by omega) (by omega), seek_dn_eq l (by omega) n k (by omega) h.2 (by omega)]
          simp only [Option.bind_some]
          have ub := up_range l n h.1
          by_cases u0 : 0 ≤ up l n
          · have hne : up l n ≠ -1 := by omega
            have un := up_near (holOk_iff.1 hv).1 n hne
            have ug : n ≤ up l n := by
              rcases up_bd l _ n rfl with ⟨e, _⟩ | ⟨h1, _⟩
              · omega
              · exact h1
            rw [if_pos (show up l n ≥ 0 from u0), spec_dateP _ k u0 ub.2 (by omega), spec_dateP n k h.1 h.2 (by omega)]
            simp only [Option.bind_some]
            have hs := sameYM_near h.1 h.2 u0 ub.2 (by omega) (by omega)
            rw [if_neg (show ¬ (3 : Int) = 0 by decide), if_neg (show ¬ (3 : Int) = 1 by decide), if_neg (show ¬ (3 : Int) = 2 by decide), if_pos trivial]
            by_cases e : (dateP (up l n)).2.1 = (dateP n).2.1
            · rw [if_pos e, if_pos ⟨u0, by rw [hs, e]; exact beq_self_eq_true _⟩]
              rfl
            · rw [if_neg e, if_neg (fun z => e (by rw [hs] at z; exact (beq_iff_eq.1 z.2).symm))]
              rfl
          · rw [if_neg (show ¬ up l n ≥ 0 from u0), if_neg (show ¬ (3 : Int) = 0 by decide), if_neg (show ¬ (3 : Int) = 1 by decide), if_neg (show ¬ (3 : Int) = 2 by decide), if_pos trivial, if_neg (fun z => u0 z.1)]
            rfl
        · rw [if_neg r3]
          have r0 : rule = 0 := by omega
          subst r0
          rfl
      · rw [if_neg (by simp; omega), if_neg (by omega), if_neg (by omega), if_neg (by omega), if_neg (by omega)]
    · rw [if_neg (by simp; omega), if_neg (fun e => h (dayV_iff.1 e.2))]
  · rw [if_neg hv, if_neg (fun e => hv e.1)]

theorem adjustP_yes {h : List Int} {n rule : Int} (h0 : 0 ≤ adjustP h n rule) : HolOk h ∧ 0 ≤ n ∧ n ≤ 36524 := by
  unfold adjustP at h0
  by_cases c : holOk h = true ∧ dayV n = true
  · exact ⟨holOk_iff.1 c.1, dayV_iff.1 c.2⟩
  · rw [if_neg c] at h0
    omega
theorem adjustP_of {h : List Int} {n : Int} (H : HolOk h) (n0 : 0 ≤ n) (n1 : n ≤ 36524) (rule : Int) : adjustP h n rule = if rule = 0 then n else if rule = 1 then up h n else if rule = 2 then dn h n else if rule = 3 then (if 0 ≤ up h n ∧ sameYM n (up h n) = true then up h n else dn h n) else -1 := by
  unfold adjustP
  rw [if_pos ⟨holOk_yes H, dayV_yes n0 n1⟩]
theorem sameYM_self (n : Int) : sameYM n n = true := by simp [sameYM]
/-- What is adjusted by a rule but the first is a business day that there is, or -1. -/
theorem adjustP_open {h : List Int} {n rule : Int} (h0 : 0 ≤ adjustP h n rule) (hr : rule ≠ 0) : 0 ≤ adjustP h n rule ∧ adjustP h n rule ≤ 36524 ∧ openB h (adjustP h n rule) = true ∧ (rule = 1 ∨ rule = 2 ∨ rule = 3) := by
  obtain ⟨H, n0, n1⟩ := adjustP_yes h0
  rw [adjustP_of H n0 n1] at h0 ⊢
  have u : 0 ≤ up h n → 0 ≤ up h n ∧ up h n ≤ 36524 ∧ openB h (up h n) = true := fun z => by
    rcases up_bd h _ n rfl with ⟨e, _⟩ | ⟨_, h2, h3, _⟩
    · omega
    · exact ⟨z, h2, h3⟩
  have d : 0 ≤ dn h n → 0 ≤ dn h n ∧ dn h n ≤ 36524 ∧ openB h (dn h n) = true := fun z => by
    rcases dn_bd h _ n rfl with ⟨e, _⟩ | ⟨h1, h2, h3, _⟩
    · omega
    · exact ⟨z, by omega, h3⟩
  rw [if_neg hr] at h0 ⊢
  by_cases r1 : rule = 1
  · rw [if_pos r1] at h0 ⊢
    have := u h0
    exact ⟨this.1, this.2.1, this.2.2, .inl r1⟩
  rw [if_neg r1] at h0 ⊢
  by_cases r2 : rule = 2
  · rw [if_pos r2] at h0 ⊢
    have := d h0
    exact ⟨this.1, this.2.1, this.2.2, .inr (.inl r2)⟩
  rw [if_neg r2] at h0 ⊢
  by_cases r3 : rule = 3
  · rw [if_pos r3] at h0 ⊢
    by_cases c : 0 ≤ up h n ∧ sameYM n (up h n) = true
    · rw [if_pos c] at h0 ⊢
      have := u h0
      exact ⟨this.1, this.2.1, this.2.2, .inr (.inr r3)⟩
    · rw [if_neg c] at h0 ⊢
      have := d h0
      exact ⟨this.1, this.2.1, this.2.2, .inr (.inr r3)⟩
  · rw [if_neg r3] at h0
    omega
/-- A business day is adjusted to itself. -/
theorem adjustP_self {h : List Int} {m rule : Int} (H : HolOk h) (m0 : 0 ≤ m) (m1 : m ≤ 36524) (ho : openB h m = true) (hr : rule = 1 ∨ rule = 2 ∨ rule = 3) : adjustP h m rule = m := by
  rw [adjustP_of H m0 m1, up_open m1 ho, dn_open m0 ho]
  rcases hr with rfl | rfl | rfl
  · rfl
  · rfl
  · rw [if_neg (show ¬ (3 : Int) = 0 by decide), if_neg (show ¬ (3 : Int) = 1 by decide), if_neg (show ¬ (3 : Int) = 2 by decide), if_pos rfl, if_pos ⟨m0, sameYM_self m⟩]
theorem isB_of {h : List Int} {m : Int} (H : HolOk h) (m0 : 0 ≤ m) (m1 : m ≤ 36524) : isB h m = openB h m := by
  unfold isB
  rw [holOk_yes H, dayV_yes m0 m1]
  rfl
end Go.Proofs.YtnfcljokgnebmaaDoor.Pure

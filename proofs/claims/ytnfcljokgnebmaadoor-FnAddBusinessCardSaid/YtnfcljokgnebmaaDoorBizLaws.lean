/-
  Plain laws on business days: counts add up, weeks have five weekdays, the next business day is near. Conditions: at most 12 holidays where the text says so.
-/
import Derived.Test.YtnfcljokgnebmaaDoorBiz
namespace Go.Proofs.YtnfcljokgnebmaaDoor.Biz

theorem HolOk.nil : HolOk [] := ⟨by simp, fun j hj => by simp at hj, fun j hj => by simp at hj⟩
theorem HolOk.tail {x : Int} {h : List Int} (H : HolOk (x :: h)) : HolOk h := by
  obtain ⟨h1, h2, h3⟩ := H
  refine ⟨by simp at h1; omega, fun j hj => ?_, fun j hj => ?_⟩
  · simpa using h2 (j + 1) (by simp; omega)
  · simpa using h3 (j + 1) (by simp; omega)

theorem cnt_add (h : List Int) : ∀ (i j : Nat) (n : Int), cnt h (i + j) n = cnt h i n + cnt h j (n + i)
  | 0, j, n => by simp [cnt]
  | i + 1, j, n => by
    rw [show i + 1 + j = (i + j) + 1 by omega]
    simp only [cnt]
    rw [cnt_add h i j (n + 1), show n + 1 + (i : Int) = n + ((i + 1 : Nat) : Int) by omega]
    omega
theorem cnt_zero (h : List Int) : ∀ (k : Nat) (n : Int), (∀ m, n ≤ m → m < n + k → openB h m = false) → cnt h k n = 0
  | 0, _, _ => rfl
  | k + 1, n, H => by
    simp only [cnt]
    rw [if_neg (by rw [H n (by omega) (by omega)]; simp), cnt_zero h k (n + 1) (fun m h1 h2 => H m (by omega) (by omega))]
    rfl
theorem cnt_one (h : List Int) (n : Int) : cnt h 1 n = if openB h n = true then 1 else 0 := by simp [cnt]
theorem open_le (h : List Int) (n : Int) (ho : openB h n = true) : openB [] n = true := by
  simp [openB] at ho ⊢
  exact ho.1
theorem cnt_le (h : List Int) : ∀ (k : Nat) (n : Int), cnt h k n ≤ cnt [] k n
  | 0, _ => Int.le_refl _
  | k + 1, n => by
    have := cnt_le h k (n + 1)
    simp only [cnt]
    by_cases ho : openB h n = true
    · rw [if_pos ho, if_pos (open_le h n ho)]; omega
    · rw [if_neg ho]; split <;> omega
theorem open_nil (n : Int) : openB [] n = decide (n % 7 < 5) := by simp [openB]
theorem cnt_per (q r : Int) : ∀ k : Nat, cnt [] k (7 * q + r) = cnt [] k r
  | 0 => rfl
  | k + 1 => by
    have ih := cnt_per q (r + 1) k
    simp only [cnt, open_nil]
    rw [show 7 * q + r + 1 = 7 * q + (r + 1) by omega, ih, show (7 * q + r) % 7 = r % 7 by omega]
theorem week_of (k : Nat) (c : Int) (h : ∀ r : Int, r = 0 ∨ r = 1 ∨ r = 2 ∨ r = 3 ∨ r = 4 ∨ r = 5 ∨ r = 6 → c ≤ cnt [] k r) (n : Int) : c ≤ cnt [] k n := by
  have := cnt_per (n / 7) (n % 7) k
  rw [show 7 * (n / 7) + n % 7 = n by omega] at this
  rw [this]
  exact h _ (by omega)
theorem week (n : Int) : cnt [] 7 n = 5 := by
  have := cnt_per (n / 7) (n % 7) 7
  rw [show 7 * (n / 7) + n % 7 = n by omega] at this
  rw [this]
  have h : n % 7 = 0 ∨ n % 7 = 1 ∨ n % 7 = 2 ∨ n % 7 = 3 ∨ n % 7 = 4 ∨ n % 7 = 5 ∨ n % 7 = 6 := by omega
  rcases h with h | h | h | h | h | h | h <;> rw [h] <;> decide
theorem nineteen (n : Int) : 13 ≤ cnt [] 19 n := week_of 19 13 (by rintro r (rfl | rfl | rfl | rfl | rfl | rfl | rfl) <;> decide) n
theorem cnt_cons (x : Int) (h : List Int) : ∀ (k : Nat) (n : Int), cnt h k n ≤ cnt (x :: h) k n + if n ≤ x ∧ x < n + k then 1 else 0
  | 0, n => by simp [cnt]; split <;> omega
  | k + 1, n => by
    have ih := cnt_cons x h k (n + 1)
    simp only [cnt]
    by_cases e : n = x
    · subst e
      rw [if_neg (by omega)] at ih
      rw [if_pos (c := n ≤ n ∧ n < n + ((k + 1 : Nat) : Int)) (by omega)]
      split <;> split <;> omega
    · have e1 : openB (x :: h) n = openB h n := by
        have : (n == x) = false := by simpa using e
        unfold openB
        rw [List.contains_cons, this, Bool.false_or]
      rw [e1]
      by_cases c : n + 1 ≤ x ∧ x < n + 1 + k
      · rw [if_pos c] at ih
        rw [if_pos (c := n ≤ x ∧ x < n + ((k + 1 : Nat) : Int)) (by omega)]
        split <;> omega
      · rw [if_neg c] at ih
        split <;> split <;> omega
theorem cnt_hol : ∀ (h : List Int) (k : Nat) (n : Int), cnt [] k n ≤ cnt h k n + h.length
  | [], k, n => by simp
  | x :: h, k, n => by
    have h1 := cnt_hol h k n
    have h2 := cnt_cons x h k n
    rw [List.length_cons]
    split at h2 <;> omega

theorem some_open {h : List Int} (hl : h.length ≤ 12) (n : Int) : ∃ m, n ≤ m ∧ m ≤ n + 18 ∧ openB h m = true := by
  by_cases H : ∃ m, n ≤ m ∧ m ≤ n + 18 ∧ openB h m = true
  · exact H
  · have z := cnt_zero h 19 n (fun m h1 h2 => by
      cases ho : openB h m with
      | false => rfl
      | true => exact absurd ⟨m, h1, by omega, ho⟩ H)
    have := nineteen n
    have := cnt_hol h 19 n
    omega

theorem up_bd (l : List Int) : ∀ (d : Nat) (n : Int), (36525 - n).toNat = d → (up l n = -1 ∧ ∀ m, n ≤ m → m ≤ 36524 → openB l m = false) ∨ (n ≤ up l n ∧ up l n ≤ 36524 ∧ openB l (up l n) = true ∧ ∀ m, n ≤ m → m < up l n → openB l m = false) := by
  intro d
  induction d with
  | zero => intro n hd; exact .inl ⟨up_end (by omega), fun m h1 h2 => by omega⟩
  | succ d ih =>
    intro n hd
    cases ho : openB l n with
    | true =>
      rw [up_open (by omega) ho]
      exact .inr ⟨by omega, by omega, ho, fun m h1 h2 => by omega⟩
    | false =>
      rw [up_next (by omega) ho]
      rcases ih (n + 1) (by omega) with ⟨h, hall⟩ | ⟨h1, h2, h3, h4⟩
      · refine .inl ⟨h, fun m hm1 hm2 => ?_⟩
        by_cases e : m = n
        · rw [e]; exact ho
        · exact hall m (by omega) hm2
      · refine .inr ⟨by omega, h2, h3, fun m hm1 hm2 => ?_⟩
        by_cases e : m = n
        · rw [e]; exact ho
        · exact h4 m (by omega) hm2
theorem dn_bd (l : List Int) : ∀ (d : Nat) (n : Int), (n + 1).toNat = d → (dn l n = -1 ∧ ∀ m, m ≤ n → 0 ≤ m → openB l m = false) ∨ (dn l n ≤ n ∧ 0 ≤ dn l n ∧ openB l (dn l n) = true ∧ ∀ m, m ≤ n → dn l n < m → openB l m = false) := by
  intro d
  induction d with
  | zero => intro n hd; exact .inl ⟨dn_end (by omega), fun m h1 h2 => by omega⟩
  | succ d ih =>
    intro n hd
    cases ho : openB l n with
    | true =>
      rw [dn_open (by omega) ho]
      exact .inr ⟨by omega, by omega, ho, fun m h1 h2 => by omega⟩
    | false =>
      rw [dn_next (by omega) ho]
      rcases ih (n - 1) (by omega) with ⟨h, hall⟩ | ⟨h1, h2, h3, h4⟩
      · refine .inl ⟨h, fun m hm1 hm2 => ?_⟩
        by_cases e : m = n
        · rw [e]; exact ho
        · exact hall m (by omega) hm2
      · refine .inr ⟨by omega, h2, h3, fun m hm1 hm2 => ?_⟩
        by_cases e : m = n
        · rw [e]; exact ho
        · exact h4 m (by omega) hm2

theorem up_range (l : List Int) (n : Int) (hn : 0 ≤ n) : -1 ≤ up l n ∧ up l n ≤ 36524 := by
  rcases up_bd l _ n rfl with ⟨e, _⟩ | ⟨h1, h2, _, _⟩ <;> omega
theorem dn_range (l : List Int) (n : Int) (hn : n ≤ 36524) : -1 ≤ dn l n ∧ dn l n ≤ 36524 := by
  rcases dn_bd l _ n rfl with ⟨e, _⟩ | ⟨h1, h2, _, _⟩ <;> omega
theorem up_near {h : List Int} (hl : h.length ≤ 12) (n : Int) (hne : up h n ≠ -1) : up h n ≤ n + 18 := by
  rcases up_bd h _ n rfl with ⟨e, _⟩ | ⟨_, _, _, h4⟩
  · exact absurd e hne
  · obtain ⟨m, m1, m2, m3⟩ := some_open hl n
    by_cases c : up h n ≤ n + 18
    · exact c
    · have := h4 m m1 (by omega)
      rw [m3] at this
      cases this
theorem dn_near {h : List Int} (hl : h.length ≤ 12) (n : Int) (hne : dn h n ≠ -1) : n - 18 ≤ dn h n := by
  rcases dn_bd h _ n rfl with ⟨e, _⟩ | ⟨_, _, _, h4⟩
  · exact absurd e hne
  · obtain ⟨m, m1, m2, m3⟩ := some_open hl (n - 18)
    by_cases c : n - 18 ≤ dn h n
    · exact c
    · have := h4 m (by omega) (by omega)
      rw [m3] at this
      cases this

theorem up_cnt (h : List Int) (n : Int) (hne : up h n ≠ -1) : cnt h (up h n - n).toNat n = 0 := by
  rcases up_bd h _ n rfl with ⟨e, _⟩ | ⟨h1, _, _, h4⟩
  · exact absurd e hne
  · exact cnt_zero h _ n (fun m m1 m2 => h4 m m1 (by omega))

/-- What holds of a day that lies k business days behind n. -/
theorem addB_cnt {h : List Int} (hl : h.length ≤ 12) (n : Int) (hn : 0 ≤ n) : ∀ (j i : Nat) (at_ : Int), (0 ≤ at_ → n ≤ at_ ∧ at_ ≤ 36524 ∧ at_ ≤ n + 19 * i + 18 ∧ openB h at_ = true ∧ cnt h (at_ - n).toNat n = i) → -1 ≤ at_ →
    0 ≤ addB h j at_ → n ≤ addB h j at_ ∧ addB h j at_ ≤ 36524 ∧ addB h j at_ ≤ n + 19 * (i + j) + 18 ∧ openB h (addB h j at_) = true ∧ cnt h (addB h j at_ - n).toNat n = i + j
  | 0, i, at_, H, _, h0 => by
    simp only [addB] at h0 ⊢
    simpa using H h0
  | j + 1, i, at_, H, hge, h0 => by
    simp only [addB] at h0 ⊢
    by_cases c : 0 ≤ at_
    · rw [if_pos c] at h0 ⊢
      obtain ⟨a1, a2, a3, a4, a5⟩ := H c
      have ub := up_bd h _ (at_ + 1) rfl
      have := addB_cnt hl n hn j (i + 1) (up h (at_ + 1)) (fun hu => by
        have un := up_near hl (at_ + 1) (by omega)
        have uc := up_cnt h (at_ + 1) (by omega)
        rcases ub with ⟨e, _⟩ | ⟨u1, u2, u3, _⟩
        · omega
        · refine ⟨by omega, u2, by omega, u3, ?_⟩
          have e : (up h (at_ + 1) - n).toNat = (at_ - n).toNat + (1 + (up h (at_ + 1) - (at_ + 1)).toNat) := by omega
          rw [e, cnt_add, cnt_add, cnt_one, a5, show n + ((at_ - n).toNat : Int) = at_ by omega, if_pos a4]
          have e2 : at_ + ((1 : Nat) : Int) = at_ + 1 := rfl
          rw [e2, uc]
          omega) (by omega) h0
      refine ⟨this.1, this.2.1, by omega, this.2.2.2.1, by rw [this.2.2.2.2]; omega⟩
    · rw [if_neg c] at h0
      omega

theorem addDays_cnt {h : List Int} {n many : Int} (h0 : 0 ≤ addDays h n many) : HolOk h ∧ 0 ≤ n ∧ n ≤ 36524 ∧ 0 ≤ many ∧ many ≤ 30 ∧ n ≤ addDays h n many ∧ addDays h n many ≤ 36524 ∧ addDays h n many ≤ n + 700 ∧
    openB h (addDays h n many) = true ∧ cnt h (addDays h n many - n).toNat n = many := by
  unfold addDays at h0 ⊢
  by_cases c : holOk h = true ∧ dayV n = true ∧ 0 ≤ many ∧ many ≤ 30
  · rw [if_pos c] at h0 ⊢
    obtain ⟨c1, c2, c3, c4⟩ := c
    have H := holOk_iff.1 c1
    have hv := dayV_iff.1 c2
    have ub := up_bd h _ n rfl
    have := addB_cnt H.1 n hv.1 many.toNat 0 (up h n) (fun hu => by
      have un := up_near H.1 n (by omega)
      have uc := up_cnt h n (by omega)
      rcases ub with ⟨e, _⟩ | ⟨u1, u2, u3, _⟩
      · omega
      · exact ⟨u1, u2, by omega, u3, by rw [uc]; rfl⟩) (by omega) h0
    exact ⟨H, hv.1, hv.2, c3, c4, this.1, this.2.1, by omega, this.2.2.2.1, by rw [this.2.2.2.2]; omega⟩
  · rw [if_neg c] at h0
    omega

theorem between_nonneg {h : List Int} {a b : Int} (h0 : 0 ≤ between h a b) : HolOk h ∧ 0 ≤ a ∧ a ≤ b ∧ b ≤ 36524 ∧ b ≤ a + 4000 ∧ between h a b = cnt h (b - a).toNat a := by
  unfold between at h0 ⊢
  by_cases c : holOk h = true ∧ dayV a = true ∧ dayV b = true ∧ a ≤ b ∧ b ≤ a + 4000
  · rw [if_pos c]
    obtain ⟨c1, c2, c3, c4, c5⟩ := c
    exact ⟨holOk_iff.1 c1, (dayV_iff.1 c2).1, c4, (dayV_iff.1 c3).2, c5, rfl⟩
  · rw [if_neg c] at h0
    omega
theorem between_eq_cnt {h : List Int} {a b : Int} (H : HolOk h) (h0 : 0 ≤ a) (hab : a ≤ b) (hb : b ≤ 36524) (hs : b ≤ a + 4000) : between h a b = cnt h (b - a).toNat a := by
  unfold between
  rw [if_pos ⟨holOk_yes H, dayV_yes h0 (by omega), dayV_yes (by omega) hb, hab, hs⟩]
end Go.Proofs.YtnfcljokgnebmaaDoor.Biz

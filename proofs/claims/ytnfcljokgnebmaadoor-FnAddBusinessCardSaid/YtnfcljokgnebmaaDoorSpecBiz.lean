/-
  What the reference's functions of business days come to (the printed Lean functions), given enough rounds: the plain functions of YtnfcljokgnebmaaDoorBiz. Conditions: lists shorter than 2^21.
-/
import Derived.Test.YtnfcljokgnebmaaDoorQx1
import Derived.Test.YtnfcljokgnebmaaDoorQx15
import Derived.Test.YtnfcljokgnebmaaDoorQx16
import Derived.Test.YtnfcljokgnebmaaDoorQx21
import Derived.Test.YtnfcljokgnebmaaDoorQx9
import Derived.Test.YtnfcljokgnebmaaDoorBizLaws
namespace Go.Proofs.YtnfcljokgnebmaaDoor.Pure
open Go.RowKit Go.Proofs.YtnfcljokgnebmaaDoor.Q Go.Proofs.YtnfcljokgnebmaaDoorW.PrintWords Go.Proofs.YtnfcljokgnebmaaDoorW.PrintLast Go.Proofs.YtnfcljokgnebmaaDoor.Biz

theorem w64 {n : Int} (h0 : -9223372036854775808 ≤ n) (h1 : n ≤ 9223372036854775807) : wrap64 n = n := by unfold wrap64; omega
theorem rd_at (l : List Int) (i : Nat) : rd l (i : Int) = l.getD i 0 := by simp [rd]
theorem drop_at (l : List Int) {i : Nat} (h : i < l.length) : l.drop i = l.getD i 0 :: l.drop (i + 1) := by
  rw [List.drop_eq_getElem_cons h]
  simp [List.getD, List.getElem?_eq_getElem h]
theorem inRange_eq (a lo hi : Int) : spec_inRange.f a lo hi = some (decide (lo ≤ a) && decide (a ≤ hi)) := by
  unfold spec_inRange.f
  by_cases h : lo ≤ a <;> simp [h]

theorem allIn_l (l : List Int) (lo hi : Int) (hl : l.length ≤ 2097152) : ∀ (d i k : Nat), l.length - i = d → i ≤ l.length → d < k → spec_allIn.l0 k l lo hi (i : Int) = some (allB lo hi (l.drop i)) := by
  intro d
  induction d with
  | zero =>
    intro i k hd hi hk
    obtain ⟨k, rfl⟩ : ∃ m, k = m + 1 := ⟨k - 1, by omega⟩
    simp only [spec_allIn.l0]
    rw [if_neg (by omega), List.drop_eq_nil_of_le (by omega)]
    rfl
  | succ d ih =>
    intro i k hd hil hk
    obtain ⟨k, rfl⟩ : ∃ m, k = m + 1 := ⟨k - 1, by omega⟩
    simp only [spec_allIn.l0]
    rw [if_pos (by omega), if_pos (by omega), rd_at, inRange_eq, drop_at l (by omega)]
    simp only [Option.bind_some, allB, List.all_cons]
    rw [w64 (by omega) (by omega), show ((i : Int) + 1) = ((i + 1 : Nat) : Int) by omega, ih (i + 1) k (by omega) (by omega) (by omega)]
    cases (decide (lo ≤ l.getD i 0) && decide (l.getD i 0 ≤ hi)) with
    | false => rw [if_neg Bool.false_ne_true, Bool.false_and]
    | true => rw [if_pos rfl, Bool.true_and]; rfl

theorem allIn_eq (l : List Int) (lo hi : Int) (hl : l.length ≤ 2097152) (k : Nat) (hk : l.length < k) : spec_allIn.f k l lo hi = some (allB lo hi l) := by
  have := allIn_l l lo hi hl l.length 0 k (by omega) (by omega) hk
  simpa [spec_allIn.f] using this

theorem validHol_l (l : List Int) (hl : l.length ≤ 2097152) : ∀ (d i k : Nat), l.length - i = d → 1 ≤ i → l.length + d + 1 < k → spec_validHolidays.l0 k l (i : Int) = some (ascB (l.drop (i - 1)) && (decide ((l.length : Int) ≤ 12) && allB 0 36524 l)) := by
  intro d
  induction d with
  | zero =>
    intro i k hd hi hk
    obtain ⟨k, rfl⟩ : ∃ m, k = m + 1 := ⟨k - 1, by omega⟩
    simp only [spec_validHolidays.l0]
    rw [if_neg (by omega)]
    have ha : ascB (l.drop (i - 1)) = true := by
      rw [ascB_iff]
      intro j hj
      rw [List.length_drop] at hj
      omega
    rw [ha]
    by_cases h12 : (l.length : Int) ≤ 12
    · rw [if_pos h12, allIn_eq l 0 36524 hl k (by omega)]
      simp [h12]
    · rw [if_neg h12]
      simp [h12]
  | succ d ih =>
    intro i k hd hi hk
    obtain ⟨k, rfl⟩ : ∃ m, k = m + 1 := ⟨k - 1, by omega⟩
    obtain ⟨j, rfl⟩ : ∃ j, i = j + 1 := ⟨i - 1, by omega⟩
    simp only [spec_validHolidays.l0]
    rw [w64 (by omega) (by omega), show (((j + 1 : Nat) : Int) - 1) = (j : Int) by omega, if_pos (by omega), if_pos (by omega), if_pos (by omega), if_pos (by omega), rd_at, rd_at]
    have e : l.drop (j + 1 - 1) = l.getD j 0 :: l.getD (j + 1) 0 :: l.drop (j + 2) := by
      rw [show j + 1 - 1 = j by omega, drop_at l (i := j) (by omega), drop_at l (i := j + 1) (by omega)]
    have e2 : l.drop (j + 2 - 1) = l.getD (j + 1) 0 :: l.drop (j + 2) := by
      rw [show j + 2 - 1 = j + 1 by omega, drop_at l (i := j + 1) (by omega)]
    rw [e]
    simp only [ascB]
    by_cases h : l.getD (j + 1) 0 ≤ l.getD j 0
    · rw [if_pos h]
      have : decide (l.getD j 0 < l.getD (j + 1) 0) = false := by simpa using h
      rw [this]
      rfl
    · rw [if_neg h, w64 (by omega) (by omega), show (((j + 1 : Nat) : Int) + 1) = ((j + 2 : Nat) : Int) by omega, ih (j + 2) k (by omega) (by omega) (by omega), e2]
      have : decide (l.getD j 0 < l.getD (j + 1) 0) = true := by simpa using h
      rw [this]
      rfl

theorem validHol_eq (l : List Int) (hl : l.length ≤ 2097152) (k : Nat) (hk : 2 * l.length + 2 < k) : spec_validHolidays.f k l = some (holOk l) := by
  have := validHol_l l hl (l.length - 1) 1 k rfl (by omega) (by omega)
  unfold holOk
  simpa [spec_validHolidays.f] using this

theorem isIn_l (l : List Int) (x : Int) (hl : l.length ≤ 2097152) : ∀ (d i k : Nat), l.length - i = d → i ≤ l.length → d < k → spec_isIn.l0 k l x (i : Int) = some ((l.drop i).contains x) := by
  intro d
  induction d with
  | zero =>
    intro i k hd hi hk
    obtain ⟨k, rfl⟩ : ∃ m, k = m + 1 := ⟨k - 1, by omega⟩
    simp only [spec_isIn.l0]
    rw [if_neg (by omega), List.drop_eq_nil_of_le (by omega)]
    rfl
  | succ d ih =>
    intro i k hd hi hk
    obtain ⟨k, rfl⟩ : ∃ m, k = m + 1 := ⟨k - 1, by omega⟩
    simp only [spec_isIn.l0]
    rw [if_pos (by omega), if_pos (by omega), rd_at, drop_at l (by omega), List.contains_cons]
    by_cases h : l.getD i 0 = x
    · rw [if_pos h, h]
      simp
    · rw [if_neg h, w64 (by omega) (by omega), show ((i : Int) + 1) = ((i + 1 : Nat) : Int) by omega, ih (i + 1) k (by omega) (by omega) (by omega)]
      have : (x == l.getD i 0) = false := by
        rw [beq_eq_false_iff_ne]
        exact fun e => h e.symm
      rw [this, Bool.false_or]
theorem isIn_eq (l : List Int) (x : Int) (hl : l.length ≤ 2097152) (k : Nat) (hk : l.length < k) : spec_isIn.f k l x = some (l.contains x) := by
  have := isIn_l l x hl l.length 0 k (by omega) (by omega) hk
  simpa [spec_isIn.f] using this

theorem business_eq (l : List Int) (n : Int) (hl : l.length ≤ 2097152) (h0 : 0 ≤ n) (k : Nat) (hk : l.length < k) : spec_business.f k l n = some (openB l n) := by
  unfold spec_business.f openB
  rw [Int.tmod_eq_emod_of_nonneg h0, isIn_eq l n hl k hk]
  by_cases h : n % 7 < 5 <;> simp [h]

theorem seek_up_l (l : List Int) (hl : l.length ≤ 2097152) : ∀ (d : Nat) (n : Int) (k : Nat), (36525 - n).toNat = d → 0 ≤ n → n ≤ 36525 → d + l.length + 1 < k → spec_seek.l0 k l n 1 = some (up l n) := by
  intro d
  induction d with
  | zero =>
    intro n k hd h0 h1 hk
    obtain ⟨k, rfl⟩ : ∃ m, k = m + 1 := ⟨k - 1, by omega⟩
    simp only [spec_seek.l0]
    rw [inRange_eq, up_end (by omega)]
    simp only [Option.bind_some]
    rw [if_neg (by simp; omega)]
  | succ d ih =>
    intro n k hd h0 h1 hk
    obtain ⟨k, rfl⟩ : ∃ m, k = m + 1 := ⟨k - 1, by omega⟩
    simp only [spec_seek.l0]
    rw [inRange_eq]
    simp only [Option.bind_some]
    rw [if_pos (by simp; omega), business_eq l n hl h0 k (by omega)]
    simp only [Option.bind_some]
    cases ho : openB l n with
    | true => rw [if_pos rfl, up_open (by omega) ho]
    | false => rw [if_neg (by simp), w64 (by omega) (by omega), ih (n + 1) k (by omega) (by omega) (by omega) (by omega), up_next (by omega) ho]
theorem seek_up_eq (l : List Int) (hl : l.length ≤ 2097152) (n : Int) (k : Nat) (h0 : 0 ≤ n) (h1 : n ≤ 36525) (hk : 36527 + l.length < k) : spec_seek.f k l n 1 = some (up l n) :=
  seek_up_l l hl _ n k rfl h0 h1 (by omega)
theorem seek_dn_l (l : List Int) (hl : l.length ≤ 2097152) : ∀ (d : Nat) (n : Int) (k : Nat), (n + 1).toNat = d → -1 ≤ n → n ≤ 36524 → d + l.length + 1 < k → spec_seek.l0 k l n (-1) = some (dn l n) := by
  intro d
  induction d with
  | zero =>
    intro n k hd h0 h1 hk
    obtain ⟨k, rfl⟩ : ∃ m, k = m + 1 := ⟨k - 1, by omega⟩
    simp only [spec_seek.l0]
    rw [inRange_eq, dn_end (by omega)]
    simp only [Option.bind_some]
    rw [if_neg (by simp; omega)]
  | succ d ih =>
    intro n k hd h0 h1 hk
    obtain ⟨k, rfl⟩ : ∃ m, k = m + 1 := ⟨k - 1, by omega⟩
    simp only [spec_seek.l0]
    rw [inRange_eq]
    simp only [Option.bind_some]
    rw [if_pos (by simp; omega), business_eq l n hl (by omega) k (by omega)]
    simp only [Option.bind_some]
    cases ho : openB l n with
    | true => rw [if_pos rfl, dn_open (by omega) ho]
    | false => rw [if_neg (by simp), w64 (by omega) (by omega), show n + -1 = n - 1 by omega, ih (n - 1) k (by omega) (by omega) (by omega) (by omega), dn_next (by omega) ho]
theorem seek_dn_eq (l : List Int) (hl : l.length ≤ 2097152) (n : Int) (k : Nat) (h0 : -1 ≤ n) (h1 : n ≤ 36524) (hk : 36527 + l.length < k) : spec_seek.f k l n (-1) = some (dn l n) :=
  seek_dn_l l hl _ n k rfl h0 h1 (by omega)

theorem addB_l (l : List Int) (hl : l.length ≤ 2097152) (many : Int) (hm : many ≤ 30) : ∀ (d : Nat) (i at_ : Int) (k : Nat), (many - i).toNat = d → 0 ≤ i → -1 ≤ at_ → at_ ≤ 36524 → 36527 + l.length + d < k → spec_AddBusiness.l0 k l at_ many i = some (addB l d at_) := by
  intro d
  induction d with
  | zero =>
    intro i at_ k hd h0 ha hb hk
    obtain ⟨k, rfl⟩ : ∃ m, k = m + 1 := ⟨k - 1, by omega⟩
    simp only [spec_AddBusiness.l0]
    rw [if_neg (by omega)]
    rfl
  | succ d ih =>
    intro i at_ k hd h0 ha hb hk
    obtain ⟨k, rfl⟩ : ∃ m, k = m + 1 := ⟨k - 1, by omega⟩
    simp only [spec_AddBusiness.l0]
    rw [if_pos (by omega)]
    by_cases h : at_ ≥ 0
    · rw [if_pos h, w64 (by omega) (by omega), seek_up_eq l hl (at_ + 1) k (by omega) (by omega) (by omega)]
      simp only [Option.bind_some]
      have hb := up_range l (at_ + 1) (by omega)
      rw [w64 (by omega) (by omega), ih (i + 1) (up l (at_ + 1)) k (by omega) (by omega) (by omega) (by omega) (by omega)]
      simp only [addB]
      rw [if_pos (by omega)]
    · rw [if_neg h]
      simp only [addB]
      rw [if_neg (by omega)]

theorem addBusiness_eq (l : List Int) (n many : Int) (hl : l.length ≤ 2097152) (k : Nat) (hk : 36600 + 2 * l.length < k) : spec_AddBusiness.f k l n many = some (addDays l n many) := by
  unfold spec_AddBusiness.f addDays
  rw [validHol_eq l hl k (by omega)]
  simp only [Option.bind_some]
  obtain ⟨k, rfl⟩ : ∃ m, k = m + 1 := ⟨k - 1, by omega⟩
  cases holOk l with
  | false =>
    rw [if_neg (by simp)]
    simp only [spec_AddBusiness.j0]
    rw [if_pos trivial, if_neg (by simp)]
  | true =>
    rw [if_pos rfl, inRange_eq]
    simp only [Option.bind_some]
    by_cases h : 0 ≤ n ∧ n ≤ 36524
    · rw [dayV_yes h.1 h.2, if_pos (by simp; omega), inRange_eq]
      simp only [Option.bind_some, spec_AddBusiness.j0]
      by_cases hm : 0 ≤ many ∧ many ≤ 30
      · rw [if_neg (by simp; omega), if_pos ⟨trivial, trivial, hm⟩, seek_up_eq l hl n k h.1 (by omega) (by omega)]
        simp only [Option.bind_some]
        have hb := up_range l n h.1
        rw [addB_l l hl many hm.2 many.toNat 0 (up l n) k (by omega) (by omega) (by omega) (by omega) (by omega)]
      · rw [if_pos (by simp; omega), if_neg (fun e => hm ⟨e.2.2.1, e.2.2.2⟩)]
    · rw [dayV_no h, if_neg (by simp; omega)]
      simp only [spec_AddBusiness.j0]
      rw [if_pos trivial, if_neg (by simp)]

theorem toInt_eq (b : Bool) : spec_toInt.f b = some (if b = true then 1 else 0) := by
  unfold spec_toInt.f
  cases b <;> rfl
end Go.Proofs.YtnfcljokgnebmaaDoor.Pure

/-
  Plain functions of business days over a list of holidays, and their step laws; no program stands here. Conditions: none.
-/
import Derived.RowKit
namespace Go.Proofs.YtnfcljokgnebmaaDoor.Biz

def dayV (n : Int) : Bool := decide (0 ≤ n) && decide (n ≤ 36524)
theorem dayV_yes {n : Int} (h0 : 0 ≤ n) (h1 : n ≤ 36524) : dayV n = true := by simp [dayV, h0, h1]
theorem dayV_no {n : Int} (h : ¬ (0 ≤ n ∧ n ≤ 36524)) : dayV n = false := by
  unfold dayV
  rw [← Bool.not_eq_true]
  simpa using h
theorem dayV_iff {n : Int} : dayV n = true ↔ 0 ≤ n ∧ n ≤ 36524 := by simp [dayV]

/-- Is the day (one that there is) a business day? -/
def openB (hs : List Int) (n : Int) : Bool := decide (n % 7 < 5) && !(hs.contains n)

/-- The first business day from n on. -/
def upF (hs : List Int) : Nat → Int → Int
  | 0, _ => -1
  | k + 1, n => if openB hs n = true then n else upF hs k (n + 1)
def up (hs : List Int) (n : Int) : Int := upF hs (36525 - n).toNat n
theorem up_open {hs : List Int} {n : Int} (h1 : n ≤ 36524) (ho : openB hs n = true) : up hs n = n := by
  unfold up
  obtain ⟨k, hk⟩ : ∃ k, (36525 - n).toNat = k + 1 := ⟨(36524 - n).toNat, by omega⟩
  rw [hk]
  show (if openB hs n = true then n else upF hs k (n + 1)) = n
  rw [if_pos ho]
theorem up_next {hs : List Int} {n : Int} (h1 : n ≤ 36524) (ho : openB hs n = false) : up hs n = up hs (n + 1) := by
  unfold up
  obtain ⟨k, hk⟩ : ∃ k, (36525 - n).toNat = k + 1 := ⟨(36524 - n).toNat, by omega⟩
  rw [hk, show (36525 - (n + 1)).toNat = k by omega]
  show (if openB hs n = true then n else upF hs k (n + 1)) = _
  rw [if_neg (by rw [ho]; exact Bool.false_ne_true)]
theorem up_end {hs : List Int} {n : Int} (h : 36525 ≤ n) : up hs n = -1 := by
  unfold up
  rw [show (36525 - n).toNat = 0 by omega]
  rfl

/-- The last business day up to n. -/
def dnF (hs : List Int) : Nat → Int → Int
  | 0, _ => -1
  | k + 1, n => if openB hs n = true then n else dnF hs k (n - 1)
def dn (hs : List Int) (n : Int) : Int := dnF hs (n + 1).toNat n
theorem dn_open {hs : List Int} {n : Int} (h1 : 0 ≤ n) (ho : openB hs n = true) : dn hs n = n := by
  unfold dn
  obtain ⟨k, hk⟩ : ∃ k, (n + 1).toNat = k + 1 := ⟨n.toNat, by omega⟩
  rw [hk]
  show (if openB hs n = true then n else dnF hs k (n - 1)) = n
  rw [if_pos ho]
theorem dn_next {hs : List Int} {n : Int} (h1 : 0 ≤ n) (ho : openB hs n = false) : dn hs n = dn hs (n - 1) := by
  unfold dn
  obtain ⟨k, hk⟩ : ∃ k, (n + 1).toNat = k + 1 := ⟨n.toNat, by omega⟩
  rw [hk, show (n - 1 + 1).toNat = k by omega]
  show (if openB hs n = true then n else dnF hs k (n - 1)) = _
  rw [if_neg (by rw [ho]; exact Bool.false_ne_true)]
theorem dn_end {hs : List Int} {n : Int} (h : n < 0) : dn hs n = -1 := by
  unfold dn
  rw [show (n + 1).toNat = 0 by omega]
  rfl

/-- So many business days further. -/
def addB (hs : List Int) : Nat → Int → Int
  | 0, at_ => at_
  | k + 1, at_ => if 0 ≤ at_ then addB hs k (up hs (at_ + 1)) else at_

/-- Business days among the k days from n on. -/
def cnt (hs : List Int) : Nat → Int → Int
  | 0, _ => 0
  | k + 1, n => (if openB hs n = true then 1 else 0) + cnt hs k (n + 1)
theorem cnt_bd (hs : List Int) : ∀ (k : Nat) (n : Int), 0 ≤ cnt hs k n ∧ cnt hs k n ≤ k
  | 0, _ => by simp [cnt]
  | k + 1, n => by
    have := cnt_bd hs k (n + 1)
    unfold cnt
    split <;> omega

/-- At most 12 holidays, days that there are, in ascending order. -/
def HolOk (h : List Int) : Prop := h.length ≤ 12 ∧ (∀ j, j < h.length → 0 ≤ h.getD j 0 ∧ h.getD j 0 ≤ 36524) ∧ ∀ j, j + 1 < h.length → h.getD j 0 < h.getD (j + 1) 0
def allB (lo hi : Int) (l : List Int) : Bool := l.all fun x => decide (lo ≤ x) && decide (x ≤ hi)

def ascB : List Int → Bool
  | [] => true
  | [_] => true
  | a :: b :: r => decide (a < b) && ascB (b :: r)

theorem ascB_iff : ∀ l : List Int, ascB l = true ↔ ∀ j, j + 1 < l.length → l.getD j 0 < l.getD (j + 1) 0
  | [] => by simp [ascB]
  | [a] => by simp [ascB]
  | a :: b :: r => by
    have ih := ascB_iff (b :: r)
    simp only [ascB, Bool.and_eq_true, decide_eq_true_eq, ih]
    constructor
    · rintro ⟨h1, h2⟩ j hj
      cases j with
      | zero => simpa using h1
      | succ j => simpa using h2 j (by simpa using hj)
    · intro h
      exact ⟨by simpa using h 0 (by simp), fun j hj => by simpa using h (j + 1) (by simpa using hj)⟩

theorem getD_mem {l : List Int} {j : Nat} (h : j < l.length) : l.getD j 0 ∈ l := by
  simp [List.getD, List.getElem?_eq_getElem h]
def holOk (l : List Int) : Bool := ascB l && (decide ((l.length : Int) ≤ 12) && allB 0 36524 l)
theorem holOk_iff {l : List Int} : holOk l = true ↔ HolOk l := by
  unfold holOk
  simp only [Bool.and_eq_true, ascB_iff, decide_eq_true_eq, allB, List.all_eq_true]
  unfold HolOk
  constructor
  · rintro ⟨h1, h2, h3⟩
    exact ⟨by omega, fun j hj => h3 _ (getD_mem hj), h1⟩
  · rintro ⟨h1, h2, h3⟩
    refine ⟨h3, by omega, fun x hx => ?_⟩
    obtain ⟨j, hj, rfl⟩ := List.getElem_of_mem hx
    have := h2 j hj
    simpa [List.getD, List.getElem?_eq_getElem hj] using this
theorem holOk_yes {h : List Int} (H : HolOk h) : holOk h = true := holOk_iff.2 H
theorem holOk_no {h : List Int} (H : ¬ HolOk h) : holOk h = false := by
  cases e : holOk h with
  | false => rfl
  | true => exact absurd (holOk_iff.1 e) H

/-- The first k of them are so. -/
def OkTo (h : List Int) (k : Nat) : Prop := (∀ j, j < k → 0 ≤ h.getD j 0 ∧ h.getD j 0 ≤ 36524) ∧ ∀ j, j + 1 < k → h.getD j 0 < h.getD (j + 1) 0
theorem OkTo.zero (h : List Int) : OkTo h 0 := ⟨fun j hj => by omega, fun j hj => by omega⟩
theorem OkTo.succ {h : List Int} {k : Nat} (H : OkTo h k) (h0 : 0 ≤ h.getD k 0) (h1 : h.getD k 0 ≤ 36524) (h2 : 0 < k → h.getD (k - 1) 0 < h.getD k 0) : OkTo h (k + 1) := by
  refine ⟨fun j hj => ?_, fun j hj => ?_⟩
  · by_cases e : j = k
    · subst e; exact ⟨h0, h1⟩
    · exact H.1 j (by omega)
  · by_cases e : j + 1 = k
    · have := h2 (by omega)
      rw [show k - 1 = j by omega] at this
      rw [e]
      exact this
    · exact H.2 j (by omega)
theorem OkTo.all {h : List Int} (hl : h.length ≤ 12) (H : OkTo h h.length) : HolOk h := ⟨hl, H⟩

def isB (h : List Int) (n : Int) : Bool := holOk h && (dayV n && openB h n)
def addDays (h : List Int) (n many : Int) : Int := if holOk h = true ∧ dayV n = true ∧ 0 ≤ many ∧ many ≤ 30 then addB h many.toNat (up h n) else -1
def between (h : List Int) (a b : Int) : Int := if holOk h = true ∧ dayV a = true ∧ dayV b = true ∧ a ≤ b ∧ b ≤ a + 4000 then cnt h (b - a).toNat a else -1

end Go.Proofs.YtnfcljokgnebmaaDoor.Biz

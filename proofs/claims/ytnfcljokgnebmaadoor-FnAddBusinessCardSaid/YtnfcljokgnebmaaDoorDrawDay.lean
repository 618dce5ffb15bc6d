/-
  The generators of days and holidays answer (printed Lean functions). Conditions: at most 2000 bytes of code, few picks.
-/
import Derived.Test.YtnfcljokgnebmaaDoorQx14
import Derived.Test.YtnfcljokgnebmaaDoorQx15
import Derived.Test.YtnfcljokgnebmaaDoorDraw
namespace Go.Proofs.YtnfcljokgnebmaaDoor.Pure
open Go.RowKit Go.Proofs.YtnfcljokgnebmaaDoor.Q Go.Proofs.YtnfcljokgnebmaaDoorW.PrintWords Go.Proofs.YtnfcljokgnebmaaDoorW.PrintLast

theorem someDay_ok (k : Nat) (s : List Int) (p : Int) (hk : 1 ≤ k) (hs : Byt s) (hp : 0 ≤ p) (hp2 : p ≤ 999000) :
    ∃ v p', spec_reader_someDay.f k s p = some (v, p') ∧ 0 ≤ v ∧ v ≤ 36524 ∧ p ≤ p' ∧ p' ≤ p + 2 := by
  obtain ⟨a, ha, a0, a1⟩ := pick_ok k s p 8 hk hs hp (by omega) (by omega) (by omega)
  unfold spec_reader_someDay.f
  rw [ha]
  simp only [Option.bind_some]
  by_cases h0 : a = 0
  · rw [if_pos h0]
    obtain ⟨v, hv, hm⟩ := one_ok k s (p + 1) [0, 36524, 58, 59, 789, 790, 3711, 3712] hk hs (by omega) (by omega) (by simp) (by simp)
    rw [hv]
    simp only [Option.bind_some]
    refine ⟨_, _, rfl, ?_, ?_, by omega, by omega⟩ <;> (simp at hm; omega)
  · rw [if_neg h0]
    by_cases h1 : a = 1
    · rw [if_pos h1]
      obtain ⟨v, hv, v0, v1⟩ := pick_ok k s (p + 1) 256 hk hs (by omega) (by omega) (by omega) (by omega)
      rw [hv]
      simp only [Option.bind_some]
      rw [wr (by omega) (by omega)]
      exact ⟨_, _, rfl, by omega, by omega, by omega, by omega⟩
    · rw [if_neg h1]
      obtain ⟨v, hv, v0, v1⟩ := pick_ok k s (p + 1) 250 hk hs (by omega) (by omega) (by omega) (by omega)
      rw [hv]
      simp only [Option.bind_some]
      simp (disch := omega) only [wr]
      exact ⟨_, _, rfl, by omega, by omega, by omega, by omega⟩

theorem anyDay_ok (k : Nat) (s : List Int) (p : Int) (hk : 1 ≤ k) (hs : Byt s) (hp : 0 ≤ p) (hp2 : p ≤ 998000) :
    ∃ v p', spec_reader_anyDay.f k s p = some (v, p') ∧ -1 ≤ v ∧ v ≤ 36525 ∧ p ≤ p' ∧ p' ≤ p + 3 := by
  obtain ⟨a, ha, a0, a1⟩ := pick_ok k s p 16 hk hs hp (by omega) (by omega) (by omega)
  unfold spec_reader_anyDay.f
  rw [ha]
  simp only [Option.bind_some]
  by_cases h0 : a = 0
  · rw [if_pos h0]
    obtain ⟨v, hv, hm⟩ := one_ok k s (p + 1) [(-1), 36525, 36524, 0] hk hs (by omega) (by omega) (by simp) (by simp)
    rw [hv]
    simp only [Option.bind_some]
    refine ⟨_, _, rfl, ?_, ?_, by omega, by omega⟩ <;> (simp at hm; omega)
  · rw [if_neg h0]
    obtain ⟨v, p', hv, v0, v1, q0, q1⟩ := someDay_ok k s (p + 1) hk hs (by omega) (by omega)
    rw [hv]
    simp only [Option.bind_some]
    exact ⟨_, _, rfl, by omega, by omega, by omega, by omega⟩

theorem spoil_ok (k : Nat) (s : List Int) (p : Int) (l : List Int) (n : Int) (hk : 1 ≤ k) (hs : Byt s) (hp : 0 ≤ p) (hp2 : p ≤ 998000) (hl : l.length ≤ 100) :
    ∃ h p', spec_reader_spoil.f k s p l n = some (h, p') ∧ h.length ≤ l.length + 1 ∧ p ≤ p' ∧ p' ≤ p + 3 := by
  unfold spec_reader_spoil.f
  have hc : spec_copyInts.f l = some l := by
    unfold spec_copyInts.f
    simp only [Option.bind_some, List.length_nil, List.nil_append]
    rw [if_pos (by omega)]
  obtain ⟨a, ha, a0, a1⟩ := pick_ok k s p 20 hk hs hp (by omega) (by omega) (by omega)
  rw [hc]
  simp only [Option.bind_some]
  rw [ha]
  simp only [Option.bind_some]
  by_cases h0 : a = 0
  · rw [if_pos h0, if_pos (by omega)]
    exact ⟨_, _, rfl, by simp, by omega, by omega⟩
  · rw [if_neg h0]
    by_cases h1 : a = 1
    · rw [if_pos h1]
      by_cases hz : (l.length : Int) > 0
      · rw [if_pos hz, if_pos (by omega)]
        exact ⟨_, _, rfl, by simp; omega, by omega, by omega⟩
      · rw [if_neg hz]
        exact ⟨_, _, rfl, by omega, by omega, by omega⟩
    · rw [if_neg h1]
      by_cases h2 : a = 2
      · rw [if_pos h2]
        by_cases hz : (l.length : Int) > 0
        · rw [if_pos hz]
          obtain ⟨i, hi, i0, i1⟩ := pick_ok k s (p + 1) (l.length : Int) hk hs (by omega) (by omega) (by omega) (by omega)
          rw [hi]
          simp only [Option.bind_some]
          obtain ⟨v, hv, _⟩ := one_ok k s (p + 1 + 1) [(-1), n, 0, 1] hk hs (by omega) (by omega) (by simp) (by simp)
          rw [hv]
          simp only [Option.bind_some]
          rw [if_pos i0, if_pos i1]
          exact ⟨_, _, rfl, by simp, by omega, by omega⟩
        · rw [if_neg hz]
          exact ⟨_, _, rfl, by omega, by omega, by omega⟩
      · rw [if_neg h2]
        exact ⟨_, _, rfl, by omega, by omega, by omega⟩

theorem anyHol_l (s : List Int) (hs : Byt s) : ∀ (d : Nat) (k : Nat) (x5 : List Int) (x6 x7 p : Int), x7.toNat = d → x7 ≤ 13 → x5.length + d ≤ 13 → d + 1 < k → 0 ≤ p → p ≤ 900000 - 3 * d →
    ∃ h p', spec_anyHolidays.l0 k x5 x6 x7 s p = some (h, p') ∧ h.length ≤ 14 ∧ p ≤ p' ∧ p' ≤ p + 3 * d + 5 := by
  intro d
  induction d with
  | zero =>
    intro k x5 x6 x7 p hd h7 hl hk hp hp2
    obtain ⟨k, rfl⟩ : ∃ m, k = m + 1 := ⟨k - 1, by omega⟩
    simp only [spec_anyHolidays.l0]
    rw [if_neg (by omega)]
    obtain ⟨a, ha, a0, a1⟩ := pick_ok k s p 16 (by omega) hs hp (by omega) (by omega) (by omega)
    rw [ha]
    simp only [Option.bind_some]
    by_cases h0 : a = 0
    · rw [if_pos h0]
      obtain ⟨h, p', hh, h1, h2, h3⟩ := spoil_ok k s (p + 1) x5 36525 (by omega) hs (by omega) (by omega) (by omega)
      rw [hh]
      simp only [Option.bind_some]
      exact ⟨_, _, rfl, by omega, by omega, by omega⟩
    · rw [if_neg h0]
      exact ⟨_, _, rfl, by omega, by omega, by omega⟩
  | succ d ih =>
    intro k x5 x6 x7 p hd h7 hl hk hp hp2
    obtain ⟨k, rfl⟩ : ∃ m, k = m + 1 := ⟨k - 1, by omega⟩
    simp only [spec_anyHolidays.l0]
    rw [if_pos (by omega)]
    obtain ⟨a, ha, a0, a1⟩ := pick_ok k s p 2 (by omega) hs hp (by omega) (by omega) (by omega)
    rw [ha]
    simp only [Option.bind_some]
    rw [if_pos (by omega)]
    obtain ⟨b, hb, b0, b1⟩ := pick_ok k s (p + 1) 4 (by omega) hs (by omega) (by omega) (by omega) (by omega)
    rw [hb]
    simp only [Option.bind_some]
    rw [wr (n := x7 - 1) (by omega) (by omega)]
    obtain ⟨h, p', hh, h1, h2, h3⟩ := ih k (x5 ++ [mn x6 (wrap64 (36524 + a))]) (wrap64 (wrap64 (x6 + 1) + b)) (x7 - 1) (p + 1 + 1) (by omega) (by omega) (by simp; omega) (by omega) (by omega) (by omega)
    exact ⟨h, p', hh, h1, by omega, by omega⟩

theorem anyHol_ok (k : Nat) (s : List Int) (p n : Int) (hk : 20 ≤ k) (hs : Byt s) (hp : 0 ≤ p) (hp2 : p ≤ 800000) :
    ∃ h p', spec_anyHolidays.f k s p n = some (h, p') ∧ h.length ≤ 14 ∧ p ≤ p' ∧ p' ≤ p + 50 := by
  unfold spec_anyHolidays.f
  obtain ⟨a, ha, a0, a1⟩ := pick_ok k s p 8 (by omega) hs hp (by omega) (by omega) (by omega)
  rw [ha]
  simp only [Option.bind_some]
  obtain ⟨b, hb, hm⟩ := one_ok k s (p + 1) [2, 3, 4, 1, 0, 12, 13] (by omega) hs (by omega) (by omega) (by simp) (by simp)
  rw [hb]
  simp only [Option.bind_some]
  have hb2 : 0 ≤ b ∧ b ≤ 13 := by simp at hm; omega
  obtain ⟨h, p', hh, h1, h2, h3⟩ := anyHol_l s hs b.toNat k [] (mx 0 (wrap64 (n - a))) b (p + 1 + 1) rfl hb2.2 (by simp; omega) (by omega) (by omega) (by omega)
  exact ⟨h, p', hh, h1, by omega, by omega⟩
end Go.Proofs.YtnfcljokgnebmaaDoor.Pure

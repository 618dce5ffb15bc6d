/-
  The generator of rates answers (printed Lean functions). Conditions: bytes.
-/
import Derived.Test.YtbofmoelmhbpoaaDoorQx2
import Derived.Laws.Entries
namespace Go.Proofs.YtbofmoelmhbpoaaDoor.Pure
open Go.RowKit Go.Proofs.YtbofmoelmhbpoaaDoor.Q Go.Proofs.YtbofmoelmhbpoaaDoorW.PrintWords Go.Proofs.YtbofmoelmhbpoaaDoorW.PrintLast

theorem wr {n : Int} (h0 : -9223372036854775808 ≤ n) (h1 : n ≤ 9223372036854775807) : wrap64 n = n := by unfold wrap64; omega

theorem xor_i64 (a b : Int) (ha0 : 0 ≤ a) (ha : a < 4611686018427387904) (hb0 : 0 ≤ b) (hb : b < 4611686018427387904) : 0 ≤ Go.bits .xor .i64 a b := by
  obtain ⟨a, rfl⟩ := Int.eq_ofNat_of_zero_le ha0
  obtain ⟨b, rfl⟩ := Int.eq_ofNat_of_zero_le hb0
  have hx : a ^^^ b < 2 ^ 62 := Nat.xor_lt_two_pow (by omega) (by omega)
  have h1 : (BitVec.ofInt 64 (a : Int)).toNat = a := by
    rw [BitVec.ofInt_natCast, BitVec.toNat_ofNat]; exact Nat.mod_eq_of_lt (by omega)
  have h2 : (BitVec.ofInt 64 (b : Int)).toNat = b := by
    rw [BitVec.ofInt_natCast, BitVec.toNat_ofNat]; exact Nat.mod_eq_of_lt (by omega)
  show 0 ≤ IntKind.i64.wrap ((BitVec.ofInt 64 (a : Int) ^^^ BitVec.ofInt 64 (b : Int)).toNat : Int)
  rw [BitVec.toNat_xor, h1, h2]
  have : IntKind.i64.wrap ((a ^^^ b : Nat) : Int) = ((a ^^^ b : Nat) : Int) := by
    simp [IntKind.wrap, IntKind.bits, IntKind.signed]
    omega
  rw [this]
  omega

/-- The code's bytes. -/
def Byt (s : List Int) : Prop := s.length ≤ 2000 ∧ ∀ x ∈ s, 0 ≤ x ∧ x ≤ 255
theorem Byt.at_ {s : List Int} (h : Byt s) (i : Int) : 0 ≤ rd s i ∧ rd s i ≤ 255 := by
  unfold rd
  by_cases hi : i.toNat < s.length
  · have : s.getD i.toNat 0 ∈ s := by simp [List.getD, List.getElem?_eq_getElem hi]
    exact h.2 _ this
  · rw [List.getD, List.getElem?_eq_none (by omega)]
    simp

theorem u8_bd {x : Int} (h : (Lit.int .u8 x).wf = true) : 0 ≤ x ∧ x ≤ 255 := by
  simpa [Lit.wf, IntKind.min, IntKind.max, IntKind.signed, IntKind.bits] using h

theorem newReader_ok (l : List Int) (hw : ∀ x ∈ l, (Lit.int .u8 x).wf = true) : ∃ s, spec_newReader.f l = some (s, 0) ∧ Byt s := by
  unfold spec_newReader.f
  by_cases h : (l.length : Int) > 2000
  · rw [if_pos h, if_pos (by omega)]
    exact ⟨_, rfl, by rw [List.length_take]; omega, fun x hx => u8_bd (hw x (List.mem_of_mem_take hx))⟩
  · rw [if_neg h]
    exact ⟨_, rfl, by omega, fun x hx => u8_bd (hw x hx)⟩

theorem pick_ok (k : Nat) (s : List Int) (p n : Int) (hk : 1 ≤ k) (hs : Byt s) (hp : 0 ≤ p) (hp2 : p ≤ 1000000) (hn : 1 ≤ n) (hn2 : n ≤ 4611686018427387904) :
    ∃ v, spec_reader_pick.f k s p n = some (v, p + 1) ∧ 0 ≤ v ∧ v < n := by
  obtain ⟨k, rfl⟩ : ∃ m, k = m + 1 := ⟨k - 1, by omega⟩
  have hlen := hs.1
  unfold spec_reader_pick.f
  rw [if_neg (by omega), wr (by omega) (by omega)]
  simp only [spec_reader_pick.j0]
  by_cases h0 : (s.length : Int) = 0
  · rw [if_pos (by simpa using h0)]
    exact ⟨0, rfl, by omega, by omega⟩
  · rw [if_neg (by simpa using h0), wr (n := p + 1 - 1) (by omega) (by omega), show p + 1 - 1 = p by omega]
    by_cases h1 : p < (s.length : Int)
    · rw [if_pos h1, if_pos hp, if_neg (by omega), wr (by have := hs.at_ p; omega) (by have := hs.at_ p; omega)]
      have := hs.at_ p
      exact ⟨_, rfl, Int.tmod_nonneg _ this.1, Int.tmod_lt_of_pos _ (by omega)⟩
    · rw [if_neg h1, if_neg h0]
      have a0 : 0 ≤ Int.tmod p (s.length : Int) := Int.tmod_nonneg _ hp
      have a1 : Int.tmod p (s.length : Int) < (s.length : Int) := Int.tmod_lt_of_pos _ (by omega)
      rw [if_pos a0, if_pos a1, wr (n := p * 7) (by omega) (by omega), wr (n := p * 7 + 3) (by omega) (by omega)]
      have b0 : 0 ≤ Int.tmod (p * 7 + 3) (s.length : Int) := Int.tmod_nonneg _ (by omega)
      have b1 : Int.tmod (p * 7 + 3) (s.length : Int) < (s.length : Int) := Int.tmod_lt_of_pos _ (by omega)
      rw [if_pos b0, if_pos b1, if_neg (by omega)]
      have c1 := hs.at_ (Int.tmod p (s.length : Int))
      have c2 := hs.at_ (Int.tmod (p * 7 + 3) (s.length : Int))
      have q0 : 0 ≤ Int.tdiv p (s.length : Int) := Int.tdiv_nonneg hp (by omega)
      have q1 : Int.tdiv p (s.length : Int) ≤ p := Int.tdiv_le_self _ hp
      generalize rd s (Int.tmod p (s.length : Int)) = x1 at *
      generalize rd s (Int.tmod (p * 7 + 3) (s.length : Int)) = x2 at *
      generalize Int.tdiv p (s.length : Int) = q at *
      simp (disch := omega) only [wr]
      have e0 : 0 ≤ Int.tdiv (x1 * 131 + x2 * 1117 + p * 29 + q * 53) 64 := Int.tdiv_nonneg (by omega) (by omega)
      have e1 := Int.tdiv_le_self (a := x1 * 131 + x2 * 1117 + p * 29 + q * 53) 64 (by omega)
      rw [wr (n := Int.tdiv (x1 * 131 + x2 * 1117 + p * 29 + q * 53) 64) (by omega) (by omega)]
      exact ⟨_, rfl, Int.tmod_nonneg _ (xor_i64 _ _ (by omega) (by omega) e0 (by omega)), Int.tmod_lt_of_pos _ (by omega)⟩

theorem one_ok (k : Nat) (s : List Int) (p : Int) (l : List Int) (hk : 1 ≤ k) (hs : Byt s) (hp : 0 ≤ p) (hp2 : p ≤ 1000000) (hl : 1 ≤ l.length) (hl2 : l.length ≤ 1000) :
    ∃ v, spec_reader_one.f k s p l = some (v, p + 1) ∧ v ∈ l := by
  obtain ⟨v, hv, h0, h1⟩ := pick_ok k s p (l.length : Int) hk hs hp hp2 (by omega) (by omega)
  unfold spec_reader_one.f
  rw [hv]
  simp only [Option.bind_some]
  rw [if_pos h0, if_pos h1]
  refine ⟨_, rfl, ?_⟩
  unfold rd
  have : v.toNat < l.length := by omega
  simp [List.getD, List.getElem?_eq_getElem this]

theorem spoil_ok (k : Nat) (s : List Int) (p : Int) (l : List Int) (a : Int) (hk : 1 ≤ k) (hs : Byt s) (hp : 0 ≤ p) (hp2 : p ≤ 900000) (hl : l.length ≤ 1000) :
    ∃ r q, spec_reader_spoil.f k s p l a = some (r, q) ∧ p ≤ q ∧ q ≤ p + 3 := by
  have hc : spec_copyInts.f l = some l := by
    unfold spec_copyInts.f
    simp only [Option.bind_some]
    rw [if_pos (by simp; omega)]
    rfl
  obtain ⟨c, hc1, _, _⟩ := pick_ok k s p 20 hk hs hp (by omega) (by omega) (by omega)
  unfold spec_reader_spoil.f
  rw [hc]
  simp only [Option.bind_some]
  rw [hc1]
  simp only [Option.bind_some]
  by_cases c0 : c = 0
  · rw [if_pos c0, if_pos (by omega)]
    exact ⟨_, _, rfl, by omega, by omega⟩
  rw [if_neg c0]
  by_cases c1 : c = 1
  · rw [if_pos c1]
    by_cases g : (l.length : Int) > 0
    · rw [if_pos g, if_pos (by omega)]
      exact ⟨_, _, rfl, by omega, by omega⟩
    · rw [if_neg g]
      exact ⟨_, _, rfl, by omega, by omega⟩
  rw [if_neg c1]
  by_cases c2 : c = 2
  · rw [if_pos c2]
    by_cases g : (l.length : Int) > 0
    · rw [if_pos g]
      obtain ⟨x, hx, x0, x1⟩ := pick_ok k s (p + 1) (l.length : Int) hk hs (by omega) (by omega) (by omega) (by omega)
      obtain ⟨y, hy, _⟩ := one_ok k s (p + 1 + 1) [(-1), a, 0, 1] hk hs (by omega) (by omega) (by simp) (by simp)
      rw [hx]
      simp only [Option.bind_some]
      rw [hy]
      simp only [Option.bind_some]
      rw [if_pos x0, if_pos x1]
      exact ⟨_, _, rfl, by omega, by omega⟩
    · rw [if_neg g]
      exact ⟨_, _, rfl, by omega, by omega⟩
  · rw [if_neg c2]
    exact ⟨_, _, rfl, by omega, by omega⟩
theorem rates_loop (s : List Int) (hs : Byt s) : ∀ (n k : Nat) (l : List Int) (x p : Int), n + 1 < k → l.length + n ≤ 500 → 0 ≤ p → p + n ≤ 800000 → ∃ r q, spec_anyRates.l0 k l x (n : Int) s p = some (r, q) ∧ p ≤ q ∧ q ≤ p + n + 3
  | 0, k, l, x, p, hk, hl, h0, h1 => by
    obtain ⟨k, rfl⟩ : ∃ m, k = m + 1 := ⟨k - 1, by omega⟩
    simp only [spec_anyRates.l0]
    obtain ⟨r, q, h, q0, q1⟩ := spoil_ok k s p l 3001 (by omega) hs h0 (by omega) (by omega)
    rw [if_neg (by omega), h]
    exact ⟨_, _, rfl, by omega, by omega⟩
  | n + 1, k, l, x, p, hk, hl, h0, h1 => by
    obtain ⟨k, rfl⟩ : ∃ m, k = m + 1 := ⟨k - 1, by omega⟩
    simp only [spec_anyRates.l0]
    obtain ⟨c, hc, _, _⟩ := pick_ok k s p 9 (by omega) hs h0 (by omega) (by omega) (by omega)
    rw [if_pos (by omega), if_pos (by omega), hc]
    simp only [Option.bind_some]
    rw [wr (n := ((n + 1 : Nat) : Int) - 1) (by omega) (by omega), show ((n + 1 : Nat) : Int) - 1 = (n : Int) by omega]
    obtain ⟨r, q, h, q0, q1⟩ := rates_loop s hs n k (l ++ [x]) (mx 0 (mn 3000 (wrap64 ((wrap64 (x + (wrap64 (c * 10)))) - 30)))) (p + 1) (by omega) (by simp; omega) (by omega) (by omega)
    exact ⟨r, q, h, by omega, by omega⟩
theorem anyRates_ok (k : Nat) (s : List Int) (p : Int) (hk : 50 ≤ k) (hB : Byt s) (h0 : 0 ≤ p) (h1 : p ≤ 1000) : ∃ r q, spec_anyRates.f k s p = some (r, q) ∧ p ≤ q ∧ q ≤ p + 20 := by
  obtain ⟨x, hx, _⟩ := one_ok k s p [300, 100, 500, 0, 1000, 3000] (by omega) hB (by omega) (by omega) (by simp) (by simp)
  obtain ⟨n, hn, mn⟩ := one_ok k s (p + 1) [3, 4, 5, 2, 1, 0, 8, 12, 13] (by omega) hB (by omega) (by omega) (by simp) (by simp)
  have bn : 0 ≤ n ∧ n ≤ 13 := by simp at mn; omega
  obtain ⟨r, q, h, q0, q1⟩ := rates_loop s hB n.toNat k [] x (p + 1 + 1) (by omega) (by simp; omega) (by omega) (by omega)
  rw [show ((n.toNat : Nat) : Int) = n by omega] at h
  unfold spec_anyRates.f
  rw [hx]
  simp only [Option.bind_some]
  rw [hn]
  simp only [Option.bind_some]
  exact ⟨r, q, h, by omega, by omega⟩
theorem drawCur_ok (k : Nat) (l : List Int) (hk : 50 ≤ k) (hw : ∀ x ∈ l, (Lit.int .u8 x).wf = true) : ∃ r, spec_DrawCurveOf.f k l = some r := by
  obtain ⟨s, hs, hB⟩ := newReader_ok l hw
  obtain ⟨r, q, h, _⟩ := anyRates_ok k s 0 hk hB (by omega) (by omega)
  unfold spec_DrawCurveOf.f
  rw [hs]
  simp only [Option.bind_some]
  rw [h]
  exact ⟨_, rfl⟩
end Go.Proofs.YtbofmoelmhbpoaaDoor.Pure

/-
  The generator of DiscountOf's arguments answers (printed Lean functions). Conditions: bytes.
-/
import Derived.Test.YtenmpmanbkaabaaDoorQx10
import Derived.Laws.Entries
namespace Go.Proofs.YtenmpmanbkaabaaDoor.Pure
open Go.RowKit Go.Proofs.YtenmpmanbkaabaaDoor.Q Go.Proofs.YtenmpmanbkaabaaDoorW.PrintWords Go.Proofs.YtenmpmanbkaabaaDoorW.PrintLast

theorem wr {n : Int} (h0 : -9223372036854775808 ≤ n) (h1 : n ≤ 9223372036854775807) : wrap64 n = n := by unfold wrap64; omega

theorem xor_i64 (a b : Int) (ha0 : 0 ≤ a) (ha : a < 4611686018427387904) (hb0 : 0 ≤ b) (hb : b < 4611686018427387904) : 0 ≤ Go.bits .xor .i64 a b := by
  obtain ⟨a, rfl⟩ := Int.eq_ofNat_of_zero_le ha0
  obtain ⟨b, rfl⟩ := Int.eq_ofNat_of_zero_le hb0
  have hx : a ^^^ b < 2 ^ 62 := Nat.xor_lt_two_pow (by omega) (by omega)
  have h1 : (BitVec.ofInt 64 (a : Int)).toNat = a := by
    rw [BitVec.ofInt_natCast, BitVec.toNat_ofNat]; exact Nat.mod_eq_of_lt (by omega)
  have h2 : (BitVec.ofInt 64 (b : Int)).toNat = b := by
    rw [BitVec.ofInt_natCast, BitVec.toNat_ofNat]; exact Nat.mod_eq_of_lt (by omega)
  show 0 ≤ IntKind.i64.wrap ((BitVec.ofInt 64 (a : Int) ^^^ BitVec.ofInt 64 (b : Int)).toNat : Int)
  rw [BitVec.toNat_xor, h1, h2]
  have : IntKind.i64.wrap ((a ^^^ b : Nat) : Int) = ((a ^^^ b : Nat) : Int) := by
    simp [IntKind.wrap, IntKind.bits, IntKind.signed]
    omega
  rw [this]
  omega

/-- The code's bytes. -/
def Byt (s : List Int) : Prop := s.length ≤ 2000 ∧ ∀ x ∈ s, 0 ≤ x ∧ x ≤ 255
theorem Byt.at_ {s : List Int} (h : Byt s) (i : Int) : 0 ≤ rd s i ∧ rd s i ≤ 255 := by
  unfold rd
  by_cases hi : i.toNat < s.length
  · have : s.getD i.toNat 0 ∈ s := by simp [List.getD, List.getElem?_eq_getElem hi]
    exact h.2 _ this
  · rw [List.getD, List.getElem?_eq_none (by omega)]
    simp

theorem u8_bd {x : Int} (h : (Lit.int .u8 x).wf = true) : 0 ≤ x ∧ x ≤ 255 := by
  simpa [Lit.wf, IntKind.min, IntKind.max, IntKind.signed, IntKind.bits] using h

theorem newReader_ok (l : List Int) (hw : ∀ x ∈ l, (Lit.int .u8 x).wf = true) : ∃ s, spec_newReader.f l = some (s, 0) ∧ Byt s := by
  unfold spec_newReader.f
  by_cases h : (l.length : Int) > 2000
  · rw [if_pos h, if_pos (by omega)]
    exact ⟨_, rfl, by rw [List.length_take]; omega, fun x hx => u8_bd (hw x (List.mem_of_mem_take hx))⟩
  · rw [if_neg h]
    exact ⟨_, rfl, by omega, fun x hx => u8_bd (hw x hx)⟩

theorem pick_ok (k : Nat) (s : List Int) (p n : Int) (hk : 1 ≤ k) (hs : Byt s) (hp : 0 ≤ p) (hp2 : p ≤ 1000000) (hn : 1 ≤ n) (hn2 : n ≤ 4611686018427387904) :
    ∃ v, spec_reader_pick.f k s p n = some (v, p + 1) ∧ 0 ≤ v ∧ v < n := by
  obtain ⟨k, rfl⟩ : ∃ m, k = m + 1 := ⟨k - 1, by omega⟩
  have hlen := hs.1
  unfold spec_reader_pick.f
  rw [if_neg (by omega), wr (by omega) (by omega)]
  simp only [spec_reader_pick.j0]
  by_cases h0 : (s.length : Int) = 0
  · rw [if_pos (by simpa using h0)]
    exact ⟨0, rfl, by omega, by omega⟩
  · rw [if_neg (by simpa using h0), wr (n := p + 1 - 1) (by omega) (by omega), show p + 1 - 1 = p by omega]
    by_cases h1 : p < (s.length : Int)
    · rw [if_pos h1, if_pos hp, if_neg (by omega), wr (by have := hs.at_ p; omega) (by have := hs.at_ p; omega)]
      have := hs.at_ p
      exact ⟨_, rfl, Int.tmod_nonneg _ this.1, Int.tmod_lt_of_pos _ (by omega)⟩
    · rw [if_neg h1, if_neg h0]
      have a0 : 0 ≤ Int.tmod p (s.length : Int) := Int.tmod_nonneg _ hp
      have a1 : Int.tmod p (s.length : Int) < (s.length : Int) := Int.tmod_lt_of_pos _ (by omega)
      rw [if_pos a0, if_pos a1, wr (n := p * 7) (by omega) (by omega), wr (n := p * 7 + 3) (by omega) (by omega)]
      have b0 : 0 ≤ Int.tmod (p * 7 + 3) (s.length : Int) := Int.tmod_nonneg _ (by omega)
      have b1 : Int.tmod (p * 7 + 3) (s.length : Int) < (s.length : Int) := Int.tmod_lt_of_pos _ (by omega)
      rw [if_pos b0, if_pos b1, if_neg (by omega)]
      have c1 := hs.at_ (Int.tmod p (s.length : Int))
      have c2 := hs.at_ (Int.tmod (p * 7 + 3) (s.length : Int))
      have q0 : 0 ≤ Int.tdiv p (s.length : Int) := Int.tdiv_nonneg hp (by omega)
      have q1 : Int.tdiv p (s.length : Int) ≤ p := Int.tdiv_le_self _ hp
      generalize rd s (Int.tmod p (s.length : Int)) = x1 at *
      generalize rd s (Int.tmod (p * 7 + 3) (s.length : Int)) = x2 at *
      generalize Int.tdiv p (s.length : Int) = q at *
      simp (disch := omega) only [wr]
      have e0 : 0 ≤ Int.tdiv (x1 * 131 + x2 * 1117 + p * 29 + q * 53) 64 := Int.tdiv_nonneg (by omega) (by omega)
      have e1 := Int.tdiv_le_self (a := x1 * 131 + x2 * 1117 + p * 29 + q * 53) 64 (by omega)
      rw [wr (n := Int.tdiv (x1 * 131 + x2 * 1117 + p * 29 + q * 53) 64) (by omega) (by omega)]
      exact ⟨_, rfl, Int.tmod_nonneg _ (xor_i64 _ _ (by omega) (by omega) e0 (by omega)), Int.tmod_lt_of_pos _ (by omega)⟩

theorem one_ok (k : Nat) (s : List Int) (p : Int) (l : List Int) (hk : 1 ≤ k) (hs : Byt s) (hp : 0 ≤ p) (hp2 : p ≤ 1000000) (hl : 1 ≤ l.length) (hl2 : l.length ≤ 1000) :
    ∃ v, spec_reader_one.f k s p l = some (v, p + 1) ∧ v ∈ l := by
  obtain ⟨v, hv, h0, h1⟩ := pick_ok k s p (l.length : Int) hk hs hp hp2 (by omega) (by omega)
  unfold spec_reader_one.f
  rw [hv]
  simp only [Option.bind_some]
  rw [if_pos h0, if_pos h1]
  refine ⟨_, rfl, ?_⟩
  unfold rd
  have : v.toNat < l.length := by omega
  simp [List.getD, List.getElem?_eq_getElem this]

theorem drawDisc_ok (k : Nat) (l : List Int) (hk : 10 ≤ k) (hw : ∀ x ∈ l, (Lit.int .u8 x).wf = true) :
    ∃ y passed days per, spec_DrawDiscountOf.f k l = some (y, passed, days, per) ∧ -1000 ≤ y ∧ y ≤ 1000000 ∧ -10 ≤ passed ∧ passed ≤ 5000 ∧ 0 ≤ days ∧ days ≤ 4001 ∧ -1 ≤ per ∧ per ≤ 41 := by
  obtain ⟨s, hs, hB⟩ := newReader_ok l hw
  obtain ⟨q, hq, q0, q1⟩ := pick_ok k s 0 250 (by omega) hB (by omega) (by omega) (by omega) (by omega)
  obtain ⟨y, hy, my⟩ := one_ok k s (0 + 1) [25000, 0, 12500, 50000, 97500, 100000, 100001, (-1), wrap64 (q * 400)] (by omega) hB (by omega) (by omega) (by simp) (by simp)
  rw [wr (n := q * 400) (by omega) (by omega)] at my
  have by' : -1000 ≤ y ∧ y ≤ 1000000 := by simp at my; omega
  obtain ⟨d, hd, md⟩ := one_ok k s (0 + 1 + 1) [182, 365, 1, 90, 0, 4000, 4001] (by omega) hB (by omega) (by omega) (by simp) (by simp)
  have bd : 0 ≤ d ∧ d ≤ 4001 := by simp at md; omega
  obtain ⟨p, hp, mp⟩ := one_ok k s (0 + 1 + 1 + 1) [0, 30, d, wrap64 (Int.tdiv d 2), wrap64 (d + 1), (-1)] (by omega) hB (by omega) (by omega) (by simp) (by simp)
  have e2 : Int.tdiv d 2 = d / 2 := Int.tdiv_eq_ediv_of_nonneg bd.1
  rw [e2, wr (n := d / 2) (by omega) (by omega), wr (n := d + 1) (by omega) (by omega)] at mp
  have bp : -10 ≤ p ∧ p ≤ 5000 := by simp at mp; omega
  obtain ⟨n, hn, mn⟩ := one_ok k s (0 + 1 + 1 + 1 + 1) [0, 1, 3, 10, 40, 41, (-1)] (by omega) hB (by omega) (by omega) (by simp) (by simp)
  have bn : -1 ≤ n ∧ n ≤ 41 := by simp at mn; omega
  have ha : spec_anyYield.f k s 0 = some (y, 0 + 1 + 1) := by
    unfold spec_anyYield.f
    rw [hq]
    simp only [Option.bind_some]
    rw [hy]
    rfl
  unfold spec_DrawDiscountOf.f
  rw [hs]
  simp only [Option.bind_some]
  rw [ha]
  simp only [Option.bind_some]
  rw [hd]
  simp only [Option.bind_some]
  rw [e2, wr (n := d / 2) (by omega) (by omega), wr (n := d + 1) (by omega) (by omega)]
  rw [e2, wr (n := d / 2) (by omega) (by omega), wr (n := d + 1) (by omega) (by omega)] at hp
  rw [hp]
  simp only [Option.bind_some]
  rw [hn]
  exact ⟨_, _, _, _, rfl, by omega, by omega, by omega, by omega, by omega, by omega, by omega, by omega⟩
end Go.Proofs.YtenmpmanbkaabaaDoor.Pure

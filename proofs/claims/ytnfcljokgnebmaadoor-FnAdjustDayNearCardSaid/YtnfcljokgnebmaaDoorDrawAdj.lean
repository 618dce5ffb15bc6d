/-
  The generator of the AdjustDay laws answers (printed Lean functions). Conditions: bytes.
-/
import Derived.Test.YtnfcljokgnebmaaDoorQx15
import Derived.Test.YtnfcljokgnebmaaDoorDrawDay
namespace Go.Proofs.YtnfcljokgnebmaaDoor.Pure
open Go.RowKit Go.Proofs.YtnfcljokgnebmaaDoor.Q Go.Proofs.YtnfcljokgnebmaaDoorW.PrintWords Go.Proofs.YtnfcljokgnebmaaDoorW.PrintLast

theorem drawAdj_ok (k : Nat) (l : List Int) (hk : 30 ≤ k) (hw : ∀ x ∈ l, (Lit.int .u8 x).wf = true) :
    ∃ h n m, spec_DrawAdjustDay.f k l = some (h, n, m) ∧ h.length ≤ 14 ∧ -1 ≤ n ∧ n ≤ 36525 ∧ -1 ≤ m ∧ m ≤ 4 := by
  obtain ⟨s, hs, hB⟩ := newReader_ok l hw
  obtain ⟨n, p', hn, n0, n1, q0, q1⟩ := anyDay_ok k s 0 (by omega) hB (by omega) (by omega)
  obtain ⟨a, ha, a0, a1⟩ := pick_ok k s p' 3 (by omega) hB (by omega) (by omega) (by omega) (by omega)
  unfold spec_DrawAdjustDay.f
  rw [hs]
  simp only [Option.bind_some]
  rw [hn]
  simp only [Option.bind_some]
  rw [ha]
  simp only [Option.bind_some]
  by_cases c : a = 0
  · rw [if_pos c]
    obtain ⟨n', hn', hm'⟩ := one_ok k s (p' + 1) [10256, 10285, 9739, 9740, 36523, 36524, 0, 1] (by omega) hB (by omega) (by omega) (by simp) (by simp)
    obtain ⟨h, p2, hh, hl, r0, r1⟩ := anyHol_ok k s (p' + 1 + 1) n' (by omega) hB (by omega) (by omega)
    obtain ⟨v, hv, hm⟩ := one_ok k s p2 [1, 2, 3, 0, 3, 4, (-1)] (by omega) hB (by omega) (by omega) (by simp) (by simp)
    rw [hn']
    simp only [Option.bind_some]
    rw [hh]
    simp only [Option.bind_some]
    rw [hv]
    simp only [Option.bind_some]
    refine ⟨_, _, _, rfl, hl, ?_, ?_, ?_, ?_⟩
    · simp at hm'; omega
    · simp at hm'; omega
    · simp at hm; omega
    · simp at hm; omega
  · rw [if_neg c]
    obtain ⟨h, p2, hh, hl, r0, r1⟩ := anyHol_ok k s (p' + 1) n (by omega) hB (by omega) (by omega)
    obtain ⟨v, hv, hm⟩ := one_ok k s p2 [1, 2, 3, 0, 3, 4, (-1)] (by omega) hB (by omega) (by omega) (by simp) (by simp)
    rw [hh]
    simp only [Option.bind_some]
    rw [hv]
    simp only [Option.bind_some]
    refine ⟨_, _, _, rfl, hl, n0, n1, ?_, ?_⟩
    · simp at hm; omega
    · simp at hm; omega
end Go.Proofs.YtnfcljokgnebmaaDoor.Pure

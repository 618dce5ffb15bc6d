/-
  The generators of the business-day laws answer (printed Lean functions): a short list and two days. Conditions: bytes.
-/
import Derived.Test.YtnfcljokgnebmaaQx17
import Derived.Test.YtnfcljokgnebmaaDrawDay
namespace Go.Proofs.Ytnfcljokgnebmaa.Pure
open Go.RowKit Go.Proofs.Ytnfcljokgnebmaa.Q Go.Proofs.YtnfcljokgnebmaaW.PrintWords Go.Proofs.YtnfcljokgnebmaaW.PrintLast

theorem drawBetween_ok (k : Nat) (l : List Int) (hk : 30 ≤ k) (hw : ∀ x ∈ l, (Lit.int .u8 x).wf = true) :
    ∃ h a b, spec_DrawBusinessBetween.f k l = some (h, a, b) ∧ h.length ≤ 14 ∧ -1 ≤ a ∧ a ≤ 36525 ∧ -2 ≤ b ∧ b ≤ 41000 := by
  obtain ⟨s, hs, hB⟩ := newReader_ok l hw
  obtain ⟨n, p', hn, n0, n1, q0, q1⟩ := anyDay_ok k s 0 (by omega) hB (by omega) (by omega)
  obtain ⟨h, p2, hh, hl, r0, r1⟩ := anyHol_ok k s p' n (by omega) hB (by omega) (by omega)
  obtain ⟨v, hv, hm⟩ := one_ok k s p2 [5, 7, 14, 1, 0, 100, (-1), 4000, 4001] (by omega) hB (by omega) (by omega) (by simp) (by simp)
  unfold spec_DrawBusinessBetween.f
  rw [hs]
  simp only [Option.bind_some]
  rw [hn]
  simp only [Option.bind_some]
  rw [hh]
  simp only [Option.bind_some]
  rw [hv]
  simp only [Option.bind_some]
  have hv2 : -1 ≤ v ∧ v ≤ 4001 := by simp at hm; omega
  rw [wr (by omega) (by omega)]
  exact ⟨_, _, _, rfl, hl, n0, n1, by omega, by omega⟩
end Go.Proofs.Ytnfcljokgnebmaa.Pure

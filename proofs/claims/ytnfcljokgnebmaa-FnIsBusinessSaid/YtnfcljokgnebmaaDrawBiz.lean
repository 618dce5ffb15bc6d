/-
  The generators of the business-day laws answer (printed Lean functions): a short list and a day. Conditions: bytes.
-/
import Derived.Test.YtnfcljokgnebmaaQx13
import Derived.Test.YtnfcljokgnebmaaDrawDay
namespace Go.Proofs.Ytnfcljokgnebmaa.Pure
open Go.RowKit Go.Proofs.Ytnfcljokgnebmaa.Q Go.Proofs.YtnfcljokgnebmaaW.PrintWords Go.Proofs.YtnfcljokgnebmaaW.PrintLast

theorem drawIsBusiness_ok (k : Nat) (l : List Int) (hk : 30 ≤ k) (hw : ∀ x ∈ l, (Lit.int .u8 x).wf = true) :
    ∃ h n, spec_DrawIsBusiness.f k l = some (h, n) ∧ h.length ≤ 14 ∧ -1 ≤ n ∧ n ≤ 36525 := by
  obtain ⟨s, hs, hB⟩ := newReader_ok l hw
  obtain ⟨n, p', hn, n0, n1, q0, q1⟩ := anyDay_ok k s 0 (by omega) hB (by omega) (by omega)
  obtain ⟨h, p2, hh, hl, r0, r1⟩ := anyHol_ok k s p' n (by omega) hB (by omega) (by omega)
  unfold spec_DrawIsBusiness.f
  rw [hs]
  simp only [Option.bind_some]
  rw [hn]
  simp only [Option.bind_some]
  rw [hh]
  simp only [Option.bind_some]
  exact ⟨_, _, rfl, hl, n0, n1⟩
end Go.Proofs.Ytnfcljokgnebmaa.Pure

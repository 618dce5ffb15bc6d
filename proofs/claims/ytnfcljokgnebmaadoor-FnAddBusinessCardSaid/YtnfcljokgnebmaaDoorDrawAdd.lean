/-
  The generators of the business-day laws answer (printed Lean functions): a short list, a day and a number. Conditions: bytes.
-/
import Derived.Test.YtnfcljokgnebmaaDoorQx21
import Derived.Test.YtnfcljokgnebmaaDoorDrawDay
namespace Go.Proofs.YtnfcljokgnebmaaDoor.Pure
open Go.RowKit Go.Proofs.YtnfcljokgnebmaaDoor.Q Go.Proofs.YtnfcljokgnebmaaDoorW.PrintWords Go.Proofs.YtnfcljokgnebmaaDoorW.PrintLast

theorem drawAdd_ok (k : Nat) (l : List Int) (hk : 30 ≤ k) (hw : ∀ x ∈ l, (Lit.int .u8 x).wf = true) :
    ∃ h n m, spec_DrawAddBusiness.f k l = some (h, n, m) ∧ h.length ≤ 14 ∧ -1 ≤ n ∧ n ≤ 36525 ∧ -1 ≤ m ∧ m ≤ 31 := by
  obtain ⟨s, hs, hB⟩ := newReader_ok l hw
  obtain ⟨n, p', hn, n0, n1, q0, q1⟩ := anyDay_ok k s 0 (by omega) hB (by omega) (by omega)
  obtain ⟨h, p2, hh, hl, r0, r1⟩ := anyHol_ok k s p' n (by omega) hB (by omega) (by omega)
  obtain ⟨v, hv, hm⟩ := one_ok k s p2 [2, 1, 0, 3, 10, 30, 31, (-1)] (by omega) hB (by omega) (by omega) (by simp) (by simp)
  unfold spec_DrawAddBusiness.f
  rw [hs]
  simp only [Option.bind_some]
  rw [hn]
  simp only [Option.bind_some]
  rw [hh]
  simp only [Option.bind_some]
  rw [hv]
  simp only [Option.bind_some]
  refine ⟨_, _, _, rfl, hl, n0, n1, ?_, ?_⟩ <;> (simp at hm; omega)
end Go.Proofs.YtnfcljokgnebmaaDoor.Pure

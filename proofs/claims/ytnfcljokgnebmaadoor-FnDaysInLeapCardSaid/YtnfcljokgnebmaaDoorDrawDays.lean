/-
  The generator of a year and a month answers (printed Lean functions). Conditions: bytes.
-/
import Derived.Test.YtnfcljokgnebmaaDoorQx7
import Derived.Test.YtnfcljokgnebmaaDoorDraw
namespace Go.Proofs.YtnfcljokgnebmaaDoor.Pure
open Go.RowKit Go.Proofs.YtnfcljokgnebmaaDoor.Q Go.Proofs.YtnfcljokgnebmaaDoorW.PrintWords Go.Proofs.YtnfcljokgnebmaaDoorW.PrintLast

theorem drawDays_ok (k : Nat) (l : List Int) (hk : 10 ≤ k) (hw : ∀ x ∈ l, (Lit.int .u8 x).wf = true) :
    ∃ y m, spec_DrawDaysIn.f k l = some (y, m) ∧ 1989 ≤ y ∧ y ≤ 2090 ∧ -1 ≤ m ∧ m ≤ 13 := by
  obtain ⟨s, hs, hB⟩ := newReader_ok l hw
  obtain ⟨a, ha, a0, a1⟩ := pick_ok k s 0 40 (by omega) hB (by omega) (by omega) (by omega) (by omega)
  obtain ⟨y, hy, hm⟩ := one_ok k s (0 + 1) [2000, 2024, 2023, 1990, 2089, 1989, 2090, wrap64 (2001 + a)] (by omega) hB (by omega) (by omega) (by simp) (by simp)
  obtain ⟨b, hb, b0, b1⟩ := pick_ok k s (0 + 1 + 1) 15 (by omega) hB (by omega) (by omega) (by omega) (by omega)
  unfold spec_DrawDaysIn.f
  rw [hs]
  simp only [Option.bind_some]
  rw [ha]
  simp only [Option.bind_some]
  rw [hy]
  simp only [Option.bind_some]
  rw [hb]
  simp only [Option.bind_some]
  rw [wr (n := 2001 + a) (by omega) (by omega)] at hm
  rw [wr (by omega) (by omega)]
  refine ⟨_, _, rfl, ?_, ?_, by omega, by omega⟩ <;> (simp at hm; omega)
end Go.Proofs.YtnfcljokgnebmaaDoor.Pure

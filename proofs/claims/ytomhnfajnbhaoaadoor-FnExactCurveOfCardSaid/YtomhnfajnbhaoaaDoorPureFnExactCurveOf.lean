/-
  The pure statement of FnExactCurveOf (printed Lean functions). Conditions: none beyond the statement's own.
-/
import Derived.Test.YtomhnfajnbhaoaaDoorQx11
import Derived.Test.YtomhnfajnbhaoaaDoorCurOf
namespace Go.Proofs.YtomhnfajnbhaoaaDoor.Pure
open Go.RowKit Go.Proofs.YtomhnfajnbhaoaaDoor.Q Go.Proofs.YtomhnfajnbhaoaaDoorW.PrintWords Go.Proofs.YtomhnfajnbhaoaaDoorW.PrintLast Go.Proofs.YtomhnfajnbhaoaaDoor.Rng

theorem FnExactCurveOf : laws_FnExactCurveOf.Pure := by
  intro l hm hl hw
  refine ⟨l.length + 100, ?_⟩
  unfold laws_FnExactCurveOf.f
  by_cases hbig : (l.length : Int) > 1048576
  · rw [if_pos hbig]
  rw [if_neg hbig, toIntS_is _ l (by omega) (by omega)]
  have hc := curF_len l
  simp only [Option.bind_some]
  rw [spec_cur _ (by omega)]
  simp only [Option.bind_some]
  rw [impl_cur _ (by omega)]
  simp only [Option.bind_some]
  rw [eqRangeS_self _ _ (by omega) (by omega)]
  simp only [Option.bind_some]
  rw [if_pos trivial]
  show laws_FnExactCurveOf.j0 (l.length + 99 + 1) _ _ _ _ _ _ _ = some true
  simp only [laws_FnExactCurveOf.j0]
  rw [if_neg (by simp), toIntS_is _ l (by omega) (by omega)]
  simp only [Option.bind_some]
  rw [eqIntS_self _ l (by omega) (by omega)]
  simp only [Option.bind_some]
  obtain ⟨y, hy⟩ := markIntS_is (l.length + 99) l (by omega) (by omega)
  rw [if_pos trivial, hy]
  simp only [Option.bind_some]
  rw [if_neg (by omega), eqRangeS_self _ _ (by omega) (by omega)]
  simp only [Option.bind_some]
  rw [if_pos trivial]
  show laws_FnExactCurveOf.j1 (l.length + 98 + 1) _ _ _ _ _ = some true
  simp only [laws_FnExactCurveOf.j1]
  obtain ⟨z, hz, hh⟩ := markRangeS_is (l.length + 98) (curF l).1 (by omega) (by omega)
  rw [if_neg (by simp), hz]
  simp only [Option.bind_some]
  rw [hh _ (by omega)]
  simp only [Option.bind_some]
  rw [if_neg (by omega), if_pos trivial, toIntS_is _ l (by omega) (by omega)]
  simp only [Option.bind_some]
  rw [impl_cur _ (by omega)]
  simp only [Option.bind_some]
  rw [eqRangeS_self _ _ (by omega) (by omega)]
  simp only [Option.bind_some]
  rw [if_pos trivial]
  show laws_FnExactCurveOf.j2 (l.length + 97 + 1) _ _ _ = some true
  simp only [laws_FnExactCurveOf.j2]
  rw [if_neg (by simp), hh _ (by omega)]
  simp only [Option.bind_some]
  rw [if_neg (by omega), if_pos trivial]
end Go.Proofs.YtomhnfajnbhaoaaDoor.Pure

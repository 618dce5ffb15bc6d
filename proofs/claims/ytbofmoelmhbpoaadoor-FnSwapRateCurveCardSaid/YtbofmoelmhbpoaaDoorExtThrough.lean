/-
  The Go method through of a range: the bounds of quotients, or the error. Conditions: the package variable errRange holds its error.
-/
import Derived.Test.YtbofmoelmhbpoaaDoorQx3
import Derived.Test.YtbofmoelmhbpoaaDoorTab
import Derived.Lib.Hide
namespace Go.Proofs.YtbofmoelmhbpoaaDoor.Q
open Go.RowKit Go.Proofs.YtbofmoelmhbpoaaDoorW.PrintWords Go.Proofs.YtbofmoelmhbpoaaDoorW.PrintLast
set_option linter.unusedVariables false
set_option linter.unusedSectionVars false
variable [Sent]

def impl_Range_through.f (a0_0 : Int) (a0_1 : Int) (a1_0 : Int) (a1_1 : Int) : Option (Int × Int × Option Int) :=
  if a0_0 < 0 ∨ a1_0 ≤ 0 then some (0, 0, some 0) else impl_bothRatio.f a0_0 a0_1 a1_0 a1_1
theorem through_neg (a b c d : Int) (w : World) (hT : Tab w) (h : a < 0) :
    Calls Tryd.prog 26 #[.agg #[.int .i64 a, .int .i64 b], .agg #[.int .i64 c, .int .i64 d]] w fun e w' => e = .returned (.tuple #[.agg #[.int .i64 0, .int .i64 0], errW (some 0)]) ∧ Below w.heap.size w w' := by
  have c0 : decide (a < 0) = true := decide_eq_true h
  clear h
  have hc : w.cell? ⟨0, 0, none⟩ = some (.iface 91 (.pointer (some Sent.a))) := hT
  have hlt : 0 < w.heap.size := World.block_lt_of_cell? w _ hc
  have hu := Tryd.underlying30
  go_enter Tryd.func26, Tryd.ntmps26
  go_wp2
  go_region
  go_wp2
  refine bodyPost_ret (results_ct rfl _ _ (w.heap.size + 2) 30 #[.int .i64 0, .int .i64 0] (0, 0) _ rfl ?hg hu rfl (by kernel_rfl)) rfl ?_
  · try (refine blk_put (cs := #[.int .i64 0, .int .i64 0]) ?_ 1 _ rfl; refine blk_put (cs := #[.int .i64 0, .int .i64 0]) ?_ 0 _ rfl)
    (with_reducible repeat (first | refine blk_drewN ?_ _ | refine blk_drew ?_))
    simpa using blk_new ((w.alloc (.cells #[.int .i64 a, .int .i64 b] 30)).alloc (.cells #[.int .i64 c, .int .i64 d] 30)) (.cells #[.int .i64 0, .int .i64 0] 30)
  · exact ⟨rfl, by repeat (first | exact Below.refl _ _ | apply below_alloc | apply pw_below_drewN | apply below_drew1 | refine below_set ?_ (by simp))⟩
theorem through_div (a b c d : Int) (w : World) (hT : Tab w) (h0 : ¬ a < 0) (h : c ≤ 0) :
    Calls Tryd.prog 26 #[.agg #[.int .i64 a, .int .i64 b], .agg #[.int .i64 c, .int .i64 d]] w fun e w' => e = .returned (.tuple #[.agg #[.int .i64 0, .int .i64 0], errW (some 0)]) ∧ Below w.heap.size w w' := by
  have c0 : decide (a < 0) = false := decide_eq_false h0
  have c1 : decide (c ≤ 0) = true := decide_eq_true h
  clear h h0
  have hc : w.cell? ⟨0, 0, none⟩ = some (.iface 91 (.pointer (some Sent.a))) := hT
  have hlt : 0 < w.heap.size := World.block_lt_of_cell? w _ hc
  have hu := Tryd.underlying30
  go_enter Tryd.func26, Tryd.ntmps26
  go_wp2
  go_region
  go_wp2
  refine bodyPost_ret (results_ct rfl _ _ (w.heap.size + 2) 30 #[.int .i64 0, .int .i64 0] (0, 0) _ rfl ?hg hu rfl (by kernel_rfl)) rfl ?_
  · try (refine blk_put (cs := #[.int .i64 0, .int .i64 0]) ?_ 1 _ rfl; refine blk_put (cs := #[.int .i64 0, .int .i64 0]) ?_ 0 _ rfl)
    (with_reducible repeat (first | refine blk_drewN ?_ _ | refine blk_drew ?_))
    simpa using blk_new ((w.alloc (.cells #[.int .i64 a, .int .i64 b] 30)).alloc (.cells #[.int .i64 c, .int .i64 d] 30)) (.cells #[.int .i64 0, .int .i64 0] 30)
  · exact ⟨rfl, by repeat (first | exact Below.refl _ _ | apply below_alloc | apply pw_below_drewN | apply below_drew1 | refine below_set ?_ (by simp))⟩
set_option maxHeartbeats 400000 in
set_option maxRecDepth 100000 in
theorem through_both (a b c d : Int) (w : World) (hT : Tab w) (h0 : ¬ a < 0) (h1 : ¬ c ≤ 0) (r1 r2 : Int) (r3 : Option Int) (h : impl_bothRatio.f a b c d = some (r1, r2, r3)) :
    Calls Tryd.prog 26 #[.agg #[.int .i64 a, .int .i64 b], .agg #[.int .i64 c, .int .i64 d]] w fun e w' => e = .returned (.tuple #[.agg #[.int .i64 r1, .int .i64 r2], errW r3]) ∧ Below w.heap.size w w' := by
  have c0 : decide (a < 0) = false := decide_eq_false h0
  have c1 : decide (c ≤ 0) = false := decide_eq_false h1
  have A1 := Lib.hid h
  have HT := Lib.hid hT
  clear h h0 h1 hT
  have hu := Tryd.underlying30
  go_enter Tryd.func26, Tryd.ntmps26
  go_wp2_with (first | (go_at_call 46; (with_reducible refine (impl_bothRatio.calls a b c d r1 r2 r3 _ ?hh A1.out).mono ?_); (case hh => exact Tab.below HT.out (by with_reducible repeat (first | exact Below.refl _ _ | apply below_alloc | apply pw_below_drewN | apply below_drew1))); rintro e w' ⟨rfl, hb⟩; have hG : w'.heap[w.heap.size + 1 + 1]? = some (.cells #[.int .i64 0, .int .i64 0] 30 (0, 0)) := blk_below (by (with_reducible repeat (first | refine blk_drewN ?_ _ | refine blk_drew ?_)); simpa using blk_new ((w.alloc (.cells #[.int .i64 a, .int .i64 b] 30)).alloc (.cells #[.int .i64 c, .int .i64 d] 30)) (.cells #[.int .i64 0, .int .i64 0] 30)) hb; have hB : Below w.heap.size w w' := below_step (by with_reducible repeat (first | exact Below.refl _ _ | apply below_alloc | apply pw_below_drewN | apply below_drew1)) hb; have HG := Lib.hid hG; have HB := Lib.hid hB; clear hG hB hb; have hz0 : w'.cell? ⟨w.heap.size + 1 + 1, 0, none⟩ = some (.int .i64 0) := (blk_cell HG.out 0).trans rfl; have hz1 : w'.cell? ⟨w.heap.size + 1 + 1, 1, none⟩ = some (.int .i64 0) := (blk_cell HG.out 1).trans rfl; have hf0 := blk_frozen HG.out 0; have hf1 := blk_frozen HG.out 1))
  refine bodyPost_ret (results_ct rfl _ _ (w.heap.size + 1 + 1) 30 #[.int .i64 r1, .int .i64 r2] (0, 0) _ rfl ?hg hu rfl (by kernel_rfl)) rfl ?_
  · refine blk_put (cs := #[.int .i64 r1, .int .i64 0]) ?_ 1 _ rfl
    refine blk_put (cs := #[.int .i64 0, .int .i64 0]) ?_ 0 _ rfl
    (with_reducible repeat (first | refine blk_drewN ?_ _ | refine blk_drew ?_))
    exact HG.out
  · exact ⟨rfl, below_set (below_set HB.out (by omega)) (by omega)⟩
theorem impl_Range_through.calls (a0_0 : Int) (a0_1 : Int) (a1_0 : Int) (a1_1 : Int) (r1 : Int) (r2 : Int) (r3 : Option Int) (w : World) (hT : Tab w) (h : impl_Range_through.f a0_0 a0_1 a1_0 a1_1 = some (r1, r2, r3)) :
    Calls Tryd.prog 26 #[.agg #[.int .i64 a0_0, .int .i64 a0_1], .agg #[.int .i64 a1_0, .int .i64 a1_1]] w fun e w' => e = .returned (.tuple #[.agg #[.int .i64 r1, .int .i64 r2], errW r3]) ∧ Below w.heap.size w w' := by
  unfold impl_Range_through.f at h
  by_cases c : a0_0 < 0 ∨ a1_0 ≤ 0
  · rw [if_pos c] at h
    simp only [Option.some.injEq, Prod.mk.injEq] at h
    obtain ⟨rfl, rfl, rfl⟩ := h
    by_cases c0 : a0_0 < 0
    · exact through_neg _ _ _ _ w hT c0
    · exact through_div _ _ _ _ w hT c0 (by omega)
  · rw [if_neg c] at h
    exact through_both _ _ _ _ w hT (by omega) (by omega) r1 r2 r3 h
end Go.Proofs.YtbofmoelmhbpoaaDoor.Q

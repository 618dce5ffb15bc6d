/-
  The Go functions of a range that may fail: what they return. Conditions: the package variable errRange holds its error.
-/
import Derived.Test.YtomhnfajnbhaoaaDoorQx2
import Derived.Test.YtomhnfajnbhaoaaDoorTab
import Derived.Lib.Hide
import Derived.LaidEql
import Derived.Stop.Asserts
import Derived.RowKitTokens
namespace Go.Proofs.YtomhnfajnbhaoaaDoor.Q
open Go.RowKit Go.Extern.Stop Go.Stop Go.Extern Go.Proofs.YtomhnfajnbhaoaaDoorW.PrintWords Go.Proofs.YtomhnfajnbhaoaaDoorW.PrintLast
set_option linter.unusedVariables false
set_option linter.unusedSectionVars false
theorem within_eq (n a b : Int) : impl_within.f n a b = some (decide (a ≤ n ∧ n ≤ b)) := by
  unfold impl_within.f
  by_cases h : n ≥ a
  · rw [if_pos h]
    congr 1
    simp [show a ≤ n from h]
  · rw [if_neg h]
    congr 1
    simp [show ¬ a ≤ n from h]
variable [Sent]

def impl_Range_checked.f (a0_0 : Int) (a0_1 : Int) : Option (Int × Int × Option Int) :=
  some (if a0_0 ≤ a0_1 ∧ -2000000000 ≤ a0_0 ∧ a0_1 ≤ 2000000000 then (a0_0, a0_1, none) else (0, 0, some 0))

theorem checked_yes (a b : Int) (w : World) (h : a ≤ b ∧ -2000000000 ≤ a ∧ b ≤ 2000000000) :
    Calls Tryd.prog 45 #[.agg #[.int .i64 a, .int .i64 b]] w fun e w' => e = .returned (.tuple #[.agg #[.int .i64 a, .int .i64 b], .nilIface]) ∧ Below w.heap.size w w' := by
  have c0 : decide (b < a) = false := decide_eq_false (by omega)
  have A1 := Lib.hid (show impl_within.f a (-2000000000) 2000000000 = some true by rw [within_eq]; congr 1; exact decide_eq_true (by omega))
  have A2 := Lib.hid (show impl_within.f b (-2000000000) 2000000000 = some true by rw [within_eq]; congr 1; exact decide_eq_true (by omega))
  clear h
  have hu := Tryd.underlying30
  go_enter Tryd.func45, Tryd.ntmps45
  go_wp2_with (first
    | (go_at_call 21; (with_reducible refine (impl_within.calls a (-2000000000) 2000000000 true _ A1.out).mono ?_); rintro e w' ⟨rfl, ⟨nd, rfl⟩⟩)
    | (go_at_call 21; (with_reducible refine (impl_within.calls b (-2000000000) 2000000000 true _ A2.out).mono ?_); rintro e w' ⟨rfl, ⟨nd, rfl⟩⟩))
  refine bodyPost_ret (results_ct rfl _ _ (w.heap.size + 1) 30 #[.int .i64 a, .int .i64 b] (0, 0) _ rfl ?hg hu rfl (by kernel_rfl)) rfl ?_
  · refine blk_put (cs := #[.int .i64 a, .int .i64 0]) ?_ 1 _ rfl
    refine blk_put (cs := #[.int .i64 0, .int .i64 0]) ?_ 0 _ rfl
    refine blk_drewN ?_ _
    simpa using blk_new (w.alloc (.cells #[.int .i64 a, .int .i64 b] 30)) (.cells #[.int .i64 0, .int .i64 0] 30)
  · exact ⟨rfl, below_set (below_set (pw_below_drewN (below_alloc (below_alloc (Below.refl _ _) _) _) _) (by simp)) (by simp)⟩
theorem checked_cross (a b : Int) (w : World) (hT : Tab w) (h : b < a) :
    Calls Tryd.prog 45 #[.agg #[.int .i64 a, .int .i64 b]] w fun e w' => e = .returned (.tuple #[.agg #[.int .i64 0, .int .i64 0], errW (some 0)]) ∧ Below w.heap.size w w' := by
  have c0 : decide (b < a) = true := decide_eq_true h
  clear h
  have hc : w.cell? ⟨0, 0, none⟩ = some (.iface 65 (.pointer (some Sent.a))) := hT
  have hlt : 0 < w.heap.size := World.block_lt_of_cell? w _ hc
  have hu := Tryd.underlying30
  go_enter Tryd.func45, Tryd.ntmps45
  go_wp2
  go_region
  go_wp2
  refine bodyPost_ret (results_ct rfl _ _ (w.heap.size + 1) 30 #[.int .i64 0, .int .i64 0] (0, 0) _ rfl ?hg hu rfl (by kernel_rfl)) rfl ?_
  · try (refine blk_put (cs := #[.int .i64 0, .int .i64 0]) ?_ 1 _ rfl; refine blk_put (cs := #[.int .i64 0, .int .i64 0]) ?_ 0 _ rfl)
    repeat (first | refine blk_drewN ?_ _ | refine blk_drew ?_)
    simpa using blk_new (w.alloc (.cells #[.int .i64 a, .int .i64 b] 30)) (.cells #[.int .i64 0, .int .i64 0] 30)
  · exact ⟨rfl, by repeat (first | exact Below.refl _ _ | apply below_alloc | apply pw_below_drewN | apply below_drew1 | refine below_set ?_ (by simp))⟩
theorem checked_low (a b : Int) (w : World) (hT : Tab w) (h0 : a ≤ b) (h : ¬ (-2000000000 ≤ a ∧ a ≤ 2000000000)) :
    Calls Tryd.prog 45 #[.agg #[.int .i64 a, .int .i64 b]] w fun e w' => e = .returned (.tuple #[.agg #[.int .i64 0, .int .i64 0], errW (some 0)]) ∧ Below w.heap.size w w' := by
  have c0 : decide (b < a) = false := decide_eq_false (by omega)
  have A1 := Lib.hid (show impl_within.f a (-2000000000) 2000000000 = some false by rw [within_eq]; congr 1; exact decide_eq_false h)
  clear h0 h
  have hc : w.cell? ⟨0, 0, none⟩ = some (.iface 65 (.pointer (some Sent.a))) := hT
  have hlt : 0 < w.heap.size := World.block_lt_of_cell? w _ hc
  have hu := Tryd.underlying30
  go_enter Tryd.func45, Tryd.ntmps45
  go_wp2_with (first | (go_at_call 21; (with_reducible refine (impl_within.calls a (-2000000000) 2000000000 false _ A1.out).mono ?_); rintro e w' ⟨rfl, ⟨nd, rfl⟩⟩))
  go_region
  go_wp2
  refine bodyPost_ret (results_ct rfl _ _ (w.heap.size + 1) 30 #[.int .i64 0, .int .i64 0] (0, 0) _ rfl ?hg hu rfl (by kernel_rfl)) rfl ?_
  · try (refine blk_put (cs := #[.int .i64 0, .int .i64 0]) ?_ 1 _ rfl; refine blk_put (cs := #[.int .i64 0, .int .i64 0]) ?_ 0 _ rfl)
    repeat (first | refine blk_drewN ?_ _ | refine blk_drew ?_)
    simpa using blk_new (w.alloc (.cells #[.int .i64 a, .int .i64 b] 30)) (.cells #[.int .i64 0, .int .i64 0] 30)
  · exact ⟨rfl, by repeat (first | exact Below.refl _ _ | apply below_alloc | apply pw_below_drewN | apply below_drew1 | refine below_set ?_ (by simp))⟩
theorem checked_high (a b : Int) (w : World) (hT : Tab w) (h0 : a ≤ b) (h1 : -2000000000 ≤ a ∧ a ≤ 2000000000) (h : ¬ (-2000000000 ≤ b ∧ b ≤ 2000000000)) :
    Calls Tryd.prog 45 #[.agg #[.int .i64 a, .int .i64 b]] w fun e w' => e = .returned (.tuple #[.agg #[.int .i64 0, .int .i64 0], errW (some 0)]) ∧ Below w.heap.size w w' := by
  have c0 : decide (b < a) = false := decide_eq_false (by omega)
  have A1 := Lib.hid (show impl_within.f a (-2000000000) 2000000000 = some true by rw [within_eq]; congr 1; exact decide_eq_true h1)
  have A2 := Lib.hid (show impl_within.f b (-2000000000) 2000000000 = some false by rw [within_eq]; congr 1; exact decide_eq_false h)
  clear h0 h1 h
  have hc : w.cell? ⟨0, 0, none⟩ = some (.iface 65 (.pointer (some Sent.a))) := hT
  have hlt : 0 < w.heap.size := World.block_lt_of_cell? w _ hc
  have hu := Tryd.underlying30
  go_enter Tryd.func45, Tryd.ntmps45
  go_wp2_with (first | (go_at_call 21; (with_reducible refine (impl_within.calls a (-2000000000) 2000000000 true _ A1.out).mono ?_); rintro e w' ⟨rfl, ⟨nd, rfl⟩⟩) | (go_at_call 21; (with_reducible refine (impl_within.calls b (-2000000000) 2000000000 false _ A2.out).mono ?_); rintro e w' ⟨rfl, ⟨nd, rfl⟩⟩))
  go_region
  go_wp2
  refine bodyPost_ret (results_ct rfl _ _ (w.heap.size + 1) 30 #[.int .i64 0, .int .i64 0] (0, 0) _ rfl ?hg hu rfl (by kernel_rfl)) rfl ?_
  · try (refine blk_put (cs := #[.int .i64 0, .int .i64 0]) ?_ 1 _ rfl; refine blk_put (cs := #[.int .i64 0, .int .i64 0]) ?_ 0 _ rfl)
    repeat (first | refine blk_drewN ?_ _ | refine blk_drew ?_)
    simpa using blk_new (w.alloc (.cells #[.int .i64 a, .int .i64 b] 30)) (.cells #[.int .i64 0, .int .i64 0] 30)
  · exact ⟨rfl, by repeat (first | exact Below.refl _ _ | apply below_alloc | apply pw_below_drewN | apply below_drew1 | refine below_set ?_ (by simp))⟩
theorem impl_Range_checked.calls (a0_0 : Int) (a0_1 : Int) (r1 : Int) (r2 : Int) (r3 : Option Int) (w : World) (hT : Tab w) (h : impl_Range_checked.f a0_0 a0_1 = some (r1, r2, r3)) :
    Calls Tryd.prog 45 #[.agg #[.int .i64 a0_0, .int .i64 a0_1]] w fun e w' => e = .returned (.tuple #[.agg #[.int .i64 r1, .int .i64 r2], errW r3]) ∧ Below w.heap.size w w' := by
  unfold impl_Range_checked.f at h
  have h := Option.some.inj h
  by_cases hv : a0_0 ≤ a0_1 ∧ -2000000000 ≤ a0_0 ∧ a0_1 ≤ 2000000000
  · rw [if_pos hv] at h
    simp only [Prod.mk.injEq] at h
    obtain ⟨rfl, rfl, rfl⟩ := h
    exact checked_yes _ _ w hv
  · rw [if_neg hv] at h
    simp only [Prod.mk.injEq] at h
    obtain ⟨rfl, rfl, rfl⟩ := h
    by_cases c : a0_1 < a0_0
    · exact checked_cross _ _ w hT c
    · by_cases c1 : -2000000000 ≤ a0_0 ∧ a0_0 ≤ 2000000000
      · exact checked_high _ _ w hT (by omega) c1 (by omega)
      · exact checked_low _ _ w hT (by omega) c1

end Go.Proofs.YtomhnfajnbhaoaaDoor.Q

/-
  The Go functions of a range that may fail: what they return. Conditions: the package variable errRange holds its error.
-/
import Derived.Test.YtbofmoelmhbpoaaDoorQx2
import Derived.Test.YtbofmoelmhbpoaaDoorTab
import Derived.Lib.Hide
import Derived.LaidEql
import Derived.Stop.Asserts
import Derived.RowKitTokens
namespace Go.Proofs.YtbofmoelmhbpoaaDoor.Q
open Go.RowKit Go.Extern.Stop Go.Stop Go.Extern Go.Proofs.YtbofmoelmhbpoaaDoorW.PrintWords Go.Proofs.YtbofmoelmhbpoaaDoorW.PrintLast
set_option linter.unusedVariables false
set_option linter.unusedSectionVars false
theorem within_eq (n a b : Int) : impl_within.f n a b = some (decide (a ≤ n ∧ n ≤ b)) := by
  unfold impl_within.f
  by_cases h : n ≥ a
  · rw [if_pos h]
    congr 1
    simp [show a ≤ n from h]
  · rw [if_neg h]
    congr 1
    simp [show ¬ a ≤ n from h]
variable [Sent]

def impl_Range_checked.f (a0_0 : Int) (a0_1 : Int) : Option (Int × Int × Option Int) :=
  some (if a0_0 ≤ a0_1 ∧ -2000000000 ≤ a0_0 ∧ a0_1 ≤ 2000000000 then (a0_0, a0_1, none) else (0, 0, some 0))

theorem checked_yes (a b : Int) (w : World) (h : a ≤ b ∧ -2000000000 ≤ a ∧ b ≤ 2000000000) :
    Calls Tryd.prog 54 #[.agg #[.int .i64 a, .int .i64 b]] w fun e w' => e = .returned (.tuple #[.agg #[.int .i64 a, .int .i64 b], .nilIface]) ∧ Below w.heap.size w w' := by
  have c0 : decide (b < a) = false := decide_eq_false (by omega)
  have A1 := Lib.hid (show impl_within.f a (-2000000000) 2000000000 = some true by rw [within_eq]; congr 1; exact decide_eq_true (by omega))
  have A2 := Lib.hid (show impl_within.f b (-2000000000) 2000000000 = some true by rw [within_eq]; congr 1; exact decide_eq_true (by omega))
  clear h
  have hu := Tryd.underlying30
  go_enter Tryd.func54, Tryd.ntmps54
  go_wp2_with (first
    | (go_at_call 22; (with_reducible refine (impl_within.calls a (-2000000000) 2000000000 true _ A1.out).mono ?_); rintro e w' ⟨rfl, ⟨nd, rfl⟩⟩)
    | (go_at_call 22; (with_reducible refine (impl_within.calls b (-2000000000) 2000000000 true _ A2.out).mono ?_); rintro e w' ⟨rfl, ⟨nd, rfl⟩⟩))
  refine bodyPost_ret (results_ct rfl _ _ (w.heap.size + 1) 30 #[.int .i64 a, .int .i64 b] (0, 0) _ rfl ?hg hu rfl (by kernel_rfl)) rfl ?_
  · refine blk_put (cs := #[.int .i64 a, .int .i64 0]) ?_ 1 _ rfl
    refine blk_put (cs := #[.int .i64 0, .int .i64 0]) ?_ 0 _ rfl
    refine blk_drewN ?_ _
    simpa using blk_new (w.alloc (.cells #[.int .i64 a, .int .i64 b] 30)) (.cells #[.int .i64 0, .int .i64 0] 30)
  · exact ⟨rfl, below_set (below_set (pw_below_drewN (below_alloc (below_alloc (Below.refl _ _) _) _) _) (by simp)) (by simp)⟩
theorem checked_cross (a b : Int) (w : World) (hT : Tab w) (h : b < a) :
    Calls Tryd.prog 54 #[.agg #[.int .i64 a, .int .i64 b]] w fun e w' => e = .returned (.tuple #[.agg #[.int .i64 0, .int .i64 0], errW (some 0)]) ∧ Below w.heap.size w w' := by
  have c0 : decide (b < a) = true := decide_eq_true h
  clear h
  have hc : w.cell? ⟨0, 0, none⟩ = some (.iface 91 (.pointer (some Sent.a))) := hT
  have hlt : 0 < w.heap.size := World.block_lt_of_cell? w _ hc
  have hu := Tryd.underlying30
  go_enter Tryd.func54, Tryd.ntmps54
  go_wp2
  go_region
  go_wp2
  refine bodyPost_ret (results_ct rfl _ _ (w.heap.size + 1) 30 #[.int .i64 0, .int .i64 0] (0, 0) _ rfl ?hg hu rfl (by kernel_rfl)) rfl ?_
  · try (refine blk_put (cs := #[.int .i64 0, .int .i64 0]) ?_ 1 _ rfl; refine blk_put (cs := #[.int .i64 0, .int .i64 0]) ?_ 0 _ rfl)
    repeat (first | refine blk_drewN ?_ _ | refine blk_drew ?_)
    simpa using blk_new (w.alloc (.cells #[.int .i64 a, .int .i64 b] 30)) (.cells #[.int .i64 0, .int .i64 0] 30)
  · exact ⟨rfl, by repeat (first | exact Below.refl _ _ | apply below_alloc | apply pw_below_drewN | apply below_drew1 | refine below_set ?_ (by simp))⟩
theorem checked_low (a b : Int) (w : World) (hT : Tab w) (h0 : a ≤ b) (h : ¬ (-2000000000 ≤ a ∧ a ≤ 2000000000)) :
    Calls Tryd.prog 54 #[.agg #[.int .i64 a, .int .i64 b]] w fun e w' => e = .returned (.tuple #[.agg #[.int .i64 0, .int .i64 0], errW (some 0)]) ∧ Below w.heap.size w w' := by
  have c0 : decide (b < a) = false := decide_eq_false (by omega)
  have A1 := Lib.hid (show impl_within.f a (-2000000000) 2000000000 = some false by rw [within_eq]; congr 1; exact decide_eq_false h)
  clear h0 h
  have hc : w.cell? ⟨0, 0, none⟩ = some (.iface 91 (.pointer (some Sent.a))) := hT
  have hlt : 0 < w.heap.size := World.block_lt_of_cell? w _ hc
  have hu := Tryd.underlying30
  go_enter Tryd.func54, Tryd.ntmps54
  go_wp2_with (first | (go_at_call 22; (with_reducible refine (impl_within.calls a (-2000000000) 2000000000 false _ A1.out).mono ?_); rintro e w' ⟨rfl, ⟨nd, rfl⟩⟩))
  go_region
  go_wp2
  refine bodyPost_ret (results_ct rfl _ _ (w.heap.size + 1) 30 #[.int .i64 0, .int .i64 0] (0, 0) _ rfl ?hg hu rfl (by kernel_rfl)) rfl ?_
  · try (refine blk_put (cs := #[.int .i64 0, .int .i64 0]) ?_ 1 _ rfl; refine blk_put (cs := #[.int .i64 0, .int .i64 0]) ?_ 0 _ rfl)
    repeat (first | refine blk_drewN ?_ _ | refine blk_drew ?_)
    simpa using blk_new (w.alloc (.cells #[.int .i64 a, .int .i64 b] 30)) (.cells #[.int .i64 0, .int .i64 0] 30)
  · exact ⟨rfl, by repeat (first | exact Below.refl _ _ | apply below_alloc | apply pw_below_drewN | apply below_drew1 | refine below_set ?_ (by simp))⟩
theorem checked_high (a b : Int) (w : World) (hT : Tab w) (h0 : a ≤ b) (h1 : -2000000000 ≤ a ∧ a ≤ 2000000000) (h : ¬ (-2000000000 ≤ b ∧ b ≤ 2000000000)) :
    Calls Tryd.prog 54 #[.agg #[.int .i64 a, .int .i64 b]] w fun e w' => e = .returned (.tuple #[.agg #[.int .i64 0, .int .i64 0], errW (some 0)]) ∧ Below w.heap.size w w' := by
  have c0 : decide (b < a) = false := decide_eq_false (by omega)
  have A1 := Lib.hid (show impl_within.f a (-2000000000) 2000000000 = some true by rw [within_eq]; congr 1; exact decide_eq_true h1)
  have A2 := Lib.hid (show impl_within.f b (-2000000000) 2000000000 = some false by rw [within_eq]; congr 1; exact decide_eq_false h)
  clear h0 h1 h
  have hc : w.cell? ⟨0, 0, none⟩ = some (.iface 91 (.pointer (some Sent.a))) := hT
  have hlt : 0 < w.heap.size := World.block_lt_of_cell? w _ hc
  have hu := Tryd.underlying30
  go_enter Tryd.func54, Tryd.ntmps54
  go_wp2_with (first | (go_at_call 22; (with_reducible refine (impl_within.calls a (-2000000000) 2000000000 true _ A1.out).mono ?_); rintro e w' ⟨rfl, ⟨nd, rfl⟩⟩) | (go_at_call 22; (with_reducible refine (impl_within.calls b (-2000000000) 2000000000 false _ A2.out).mono ?_); rintro e w' ⟨rfl, ⟨nd, rfl⟩⟩))
  go_region
  go_wp2
  refine bodyPost_ret (results_ct rfl _ _ (w.heap.size + 1) 30 #[.int .i64 0, .int .i64 0] (0, 0) _ rfl ?hg hu rfl (by kernel_rfl)) rfl ?_
  · try (refine blk_put (cs := #[.int .i64 0, .int .i64 0]) ?_ 1 _ rfl; refine blk_put (cs := #[.int .i64 0, .int .i64 0]) ?_ 0 _ rfl)
    repeat (first | refine blk_drewN ?_ _ | refine blk_drew ?_)
    simpa using blk_new (w.alloc (.cells #[.int .i64 a, .int .i64 b] 30)) (.cells #[.int .i64 0, .int .i64 0] 30)
  · exact ⟨rfl, by repeat (first | exact Below.refl _ _ | apply below_alloc | apply pw_below_drewN | apply below_drew1 | refine below_set ?_ (by simp))⟩
theorem impl_Range_checked.calls (a0_0 : Int) (a0_1 : Int) (r1 : Int) (r2 : Int) (r3 : Option Int) (w : World) (hT : Tab w) (h : impl_Range_checked.f a0_0 a0_1 = some (r1, r2, r3)) :
    Calls Tryd.prog 54 #[.agg #[.int .i64 a0_0, .int .i64 a0_1]] w fun e w' => e = .returned (.tuple #[.agg #[.int .i64 r1, .int .i64 r2], errW r3]) ∧ Below w.heap.size w w' := by
  unfold impl_Range_checked.f at h
  have h := Option.some.inj h
  by_cases hv : a0_0 ≤ a0_1 ∧ -2000000000 ≤ a0_0 ∧ a0_1 ≤ 2000000000
  · rw [if_pos hv] at h
    simp only [Prod.mk.injEq] at h
    obtain ⟨rfl, rfl, rfl⟩ := h
    exact checked_yes _ _ w hv
  · rw [if_neg hv] at h
    simp only [Prod.mk.injEq] at h
    obtain ⟨rfl, rfl, rfl⟩ := h
    by_cases c : a0_1 < a0_0
    · exact checked_cross _ _ w hT c
    · by_cases c1 : -2000000000 ≤ a0_0 ∧ a0_0 ≤ 2000000000
      · exact checked_high _ _ w hT (by omega) c1 (by omega)
      · exact checked_low _ _ w hT (by omega) c1

/-! ### errors.Is of the sentinel and of nil, and told -/
theorem isTypeOf (v : Value) (w : World) : (Extern.ReflectliteType.typeOf #[.iface 91 v]).run Tryd.prog w = .ok (.iface 81 (.agg #[.pointer (some ⟨1, 91, none⟩)])) w := by kernel_rfl
/-- What the model's entry of Comparable does. -/
def cmpM : TypeId → Sem Value := fun t => do Extern.Rtype.noPackHeld "Comparable" t; pure (.bool (← typeInfo t).comparable)
theorem isComparable (w : World) : (Extern.ReflectliteType.method cmpM #[.agg #[.pointer (some ⟨1, 91, none⟩)]]).run Tryd.prog w = .ok (.bool true) w := by kernel_rfl
theorem isMethodComparable (v : Value) (w : World) : (Go.method 229 81 v "Comparable").run Tryd.prog w = .ok (81, v) w := by kernel_rfl
theorem isComp : (Tryd.prog.info? 91).map (·.comparable) = some true := by kernel_rfl
theorem isSize : (Tryd.prog.info? 117).map (·.size) = some 1 := by kernel_rfl
set_option maxHeartbeats 8000000 in
set_option maxRecDepth 100000 in
theorem is_same (a : Addr) (w : World) :
    Calls Tryd.prog 53 #[.iface 91 (.pointer (some a)), .iface 91 (.pointer (some a))] w fun e w' => e = .returned (.bool true) ∧ w' = w := by
  obtain ⟨i, hi, hcmp⟩ := Option.map_eq_some_iff.1 isComp
  obtain ⟨j, hj, hjs⟩ := Option.map_eq_some_iff.1 isSize
  have h8 := @run_callFunc_extern Tryd.prog 60 _ Extern.ReflectliteType.typeOf Tryd.func60 (by kernel_rfl) (by kernel_rfl) (by kernel_rfl) (by kernel_rfl)
  have h32 := @run_callFunc_extern Tryd.prog 81 _ (Extern.ReflectliteType.method cmpM) Tryd.func81 (by kernel_rfl) (by kernel_rfl) (by kernel_rfl) (by kernel_rfl)
  have tT := isTypeOf
  have cT := isComparable
  have mR := isMethodComparable
  have heq := run_eql_iface_ptr_same (P := Tryd.prog) w a Tryd.underlying50 Tryd.underlying91 hi hcmp hj
  go_enter Tryd.func53, Tryd.ntmps53
  go_wp2
  refine wp_loop_rounds 1 ?_
  rw [rounds_succ]
  go_wp2
  go_ret
  exact ⟨rfl, rfl⟩
theorem is_nil (b : Addr) (w : World) :
    Calls Tryd.prog 53 #[.nilIface, .iface 91 (.pointer (some b))] w fun e w' => e = .returned (.bool false) ∧ w' = w := by
  have hn := run_eql_iface_nil_left (P := Tryd.prog) w 91 (.pointer (some b)) Tryd.underlying50
  go_enter Tryd.func53, Tryd.ntmps53
  go_wp2
  go_ret
  exact ⟨rfl, rfl⟩
/-- A range, and whether no error came with it. -/
def impl_told.f (a0_0 : Int) (a0_1 : Int) (a1 : Option Int) : Option (Int × Int × Bool) := some (if a1.isNone = true then (a0_0, a0_1, true) else (0, 0, false))
theorem told_none (a b : Int) (w : World) (hT : Tab w) :
    Calls Tryd.prog 32 #[.agg #[.int .i64 a, .int .i64 b], .nilIface] w fun e w' => e = .returned (.tuple #[.agg #[.int .i64 a, .int .i64 b], .bool true]) ∧ Below w.heap.size w w' := by
  have hc : w.cell? ⟨0, 0, none⟩ = some (.iface 91 (.pointer (some Sent.a))) := hT
  have hlt : 0 < w.heap.size := World.block_lt_of_cell? w _ hc
  have hu := Tryd.underlying30
  go_enter Tryd.func32, Tryd.ntmps32
  go_wp2_with (first | (go_at_call 53; (with_reducible refine (is_nil Sent.a _).mono ?_); rintro e w' ⟨rfl, rfl⟩))
  refine bodyPost_ret (results_ct rfl _ _ (w.heap.size + 1) 30 #[.int .i64 a, .int .i64 b] (0, 0) _ rfl ?hg hu rfl (by kernel_rfl)) rfl ?_
  · try (refine blk_put (cs := #[.int .i64 a, .int .i64 0]) ?_ 1 _ rfl; refine blk_put (cs := #[.int .i64 0, .int .i64 0]) ?_ 0 _ rfl)
    repeat (first | refine blk_drewN ?_ _ | refine blk_drew ?_)
    first | (simpa using blk_new (w.alloc (.cells #[.int .i64 a, .int .i64 b] 30)) (.cells #[.int .i64 0, .int .i64 0] 30)) | (simpa using blk_new (w.alloc (.cells #[.int .i64 a, .int .i64 b] 30)) (.cells #[.int .i64 a, .int .i64 b] 30))
  · exact ⟨rfl, by repeat (first | exact Below.refl _ _ | apply below_alloc | apply pw_below_drewN | apply below_drew1 | refine below_set ?_ (by simp))⟩
theorem told_some (a b : Int) (w : World) (hT : Tab w) :
    Calls Tryd.prog 32 #[.agg #[.int .i64 a, .int .i64 b], .iface 91 (.pointer (some Sent.a))] w fun e w' => e = .returned (.tuple #[.agg #[.int .i64 0, .int .i64 0], .bool false]) ∧ Below w.heap.size w w' := by
  have hc : w.cell? ⟨0, 0, none⟩ = some (.iface 91 (.pointer (some Sent.a))) := hT
  have hlt : 0 < w.heap.size := World.block_lt_of_cell? w _ hc
  have hu := Tryd.underlying30
  go_enter Tryd.func32, Tryd.ntmps32
  go_wp2_with (first | (go_at_call 53; (with_reducible refine (is_same Sent.a _).mono ?_); rintro e w' ⟨rfl, rfl⟩))
  refine bodyPost_ret (results_ct rfl _ _ (w.heap.size + 1) 30 #[.int .i64 0, .int .i64 0] (0, 0) _ rfl ?hg hu rfl (by kernel_rfl)) rfl ?_
  · try (refine blk_put (cs := #[.int .i64 0, .int .i64 0]) ?_ 1 _ rfl; refine blk_put (cs := #[.int .i64 0, .int .i64 0]) ?_ 0 _ rfl)
    repeat (first | refine blk_drewN ?_ _ | refine blk_drew ?_)
    first | (simpa using blk_new (w.alloc (.cells #[.int .i64 a, .int .i64 b] 30)) (.cells #[.int .i64 0, .int .i64 0] 30)) | (simpa using blk_new (w.alloc (.cells #[.int .i64 a, .int .i64 b] 30)) (.cells #[.int .i64 a, .int .i64 b] 30))
  · exact ⟨rfl, by repeat (first | exact Below.refl _ _ | apply below_alloc | apply pw_below_drewN | apply below_drew1 | refine below_set ?_ (by simp))⟩
theorem impl_told.calls (a0_0 : Int) (a0_1 : Int) (a1 : Option Int) (r1 : Int) (r2 : Int) (r3 : Bool) (w : World) (hT : Tab w) (h : impl_told.f a0_0 a0_1 a1 = some (r1, r2, r3)) :
    Calls Tryd.prog 32 #[.agg #[.int .i64 a0_0, .int .i64 a0_1], errW a1] w fun e w' => e = .returned (.tuple #[.agg #[.int .i64 r1, .int .i64 r2], .bool r3]) ∧ Below w.heap.size w w' := by
  have h := Option.some.inj h
  cases a1 with
  | none =>
    rw [if_pos (show (none : Option Int).isNone = true from rfl)] at h
    simp only [Prod.mk.injEq] at h
    obtain ⟨rfl, rfl, rfl⟩ := h
    exact told_none _ _ w hT
  | some c =>
    rw [if_neg (by simp)] at h
    simp only [Prod.mk.injEq] at h
    obtain ⟨rfl, rfl, rfl⟩ := h
    exact told_some _ _ w hT
end Go.Proofs.YtbofmoelmhbpoaaDoor.Q

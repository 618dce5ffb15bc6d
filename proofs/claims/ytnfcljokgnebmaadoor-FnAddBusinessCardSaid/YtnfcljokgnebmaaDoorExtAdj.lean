/-
  The Go function AdjustDay returns what the plain 'adjustP' says, for every slice that reads as a list of numbers, and leaves all memory that was there. Conditions: the table monthDays holds its numbers.
-/
import Derived.Test.YtnfcljokgnebmaaDoorQx10
import Derived.Test.YtnfcljokgnebmaaDoorDate
import Derived.Test.YtnfcljokgnebmaaDoorExt
namespace Go.Proofs.YtnfcljokgnebmaaDoor.Q
open Go.RowKit Go.Maps Go.Proofs.YtnfcljokgnebmaaDoorW.PrintWords Go.Proofs.YtnfcljokgnebmaaDoor.Biz
set_option linter.unusedVariables false

def impl_AdjustDay.f (l0 : List Int) (a1 : Int) (a2 : Int) : Option (Int) := some (Pure.adjustP l0 a1 a2)

theorem adj_bad (A0 : Option Addr) (c0 : Nat) (l0 : List Int) (a1 a2 : Int) (w : World) (hr0 : Kd.C (Kd.int .i64) w A0 l0.length l0) (hbad : ¬ (HolOk l0 ∧ 0 ≤ a1 ∧ a1 ≤ 36524)) :
    Calls Tryd.prog 23 #[.slice A0 l0.length c0, .int .i64 a1, .int .i64 a2] w fun e w' => e = .returned (.int .i64 (-1)) ∧ Below w.heap.size w w' := by
  have HR := Lib.hid hr0
  clear hr0
  by_cases H : HolOk l0
  · by_cases d0 : 0 ≤ a1
    · have d1 : decide (a1 ≤ 36524) = false := decide_eq_false (fun e => hbad ⟨H, d0, e⟩)
      clear hbad
      go_enter Tryd.func23, Tryd.ntmps23
      go_wp2_with (first | (go_at_call 45; (with_reducible refine (hol_yes A0 c0 l0 _ HR.out H).mono ?_); rintro e w1 ⟨B, rfl, HM, HB⟩) | go_in)
      go_ret
      exact ⟨rfl, HB.out⟩
    · clear hbad
      go_enter Tryd.func23, Tryd.ntmps23
      go_wp2_with (first | (go_at_call 45; (with_reducible refine (hol_yes A0 c0 l0 _ HR.out H).mono ?_); rintro e w1 ⟨B, rfl, HM, HB⟩) | go_in)
      go_ret
      exact ⟨rfl, HB.out⟩
  · clear hbad
    go_enter Tryd.func23, Tryd.ntmps23
    go_wp2_with (first | (go_at_call 45; (with_reducible refine (hol_not A0 c0 l0 _ HR.out H).mono ?_); rintro e w1 ⟨rfl, HB⟩) | go_in)
    go_ret
    exact ⟨rfl, HB.out⟩

set_option maxRecDepth 100000 in
set_option maxHeartbeats 2000000 in
theorem adj_zero (A0 : Option Addr) (c0 : Nat) (l0 : List Int) (a1 : Int) (w : World) (hr0 : Kd.C (Kd.int .i64) w A0 l0.length l0) (H : HolOk l0) (d0 : 0 ≤ a1) (d1 : a1 ≤ 36524) :
    Calls Tryd.prog 23 #[.slice A0 l0.length c0, .int .i64 a1, .int .i64 0] w fun e w' => e = .returned (.int .i64 a1) ∧ Below w.heap.size w w' := by
  have HR := Lib.hid hr0
  clear hr0
  go_enter Tryd.func23, Tryd.ntmps23
  go_wp2_with (first | (go_at_call 45; (with_reducible refine (hol_yes A0 c0 l0 _ HR.out H).mono ?_); rintro e w1 ⟨B, rfl, HM, HB⟩) | go_in)
  go_ret
  exact ⟨rfl, HB.out⟩
theorem adj_one (A0 : Option Addr) (c0 : Nat) (l0 : List Int) (a1 U : Int) (w : World) (hr0 : Kd.C (Kd.int .i64) w A0 l0.length l0) (H : HolOk l0) (d0 : 0 ≤ a1) (d1 : a1 ≤ 36524) (hU : up l0 a1 = U) :
    Calls Tryd.prog 23 #[.slice A0 l0.length c0, .int .i64 a1, .int .i64 1] w fun e w' => e = .returned (.int .i64 U) ∧ Below w.heap.size w w' := by
  have HR := Lib.hid hr0
  have HU := Lib.hid hU
  clear hr0 hU
  go_enter Tryd.func23, Tryd.ntmps23
  go_wp2_with (first | (go_at_call 45; (with_reducible refine (hol_yes A0 c0 l0 _ HR.out H).mono ?_); rintro e w1 ⟨B, rfl, HM, HB⟩) | (go_at_call 46; (with_reducible refine (seek_up l0 B a1 _ HM.out d0 (by omega)).mono ?_); rw [HU.out]; rintro e w2 ⟨rfl, hb2⟩; have n1 := Lib.hid (below_then HB.out HB.out.size hb2); have n2 := Lib.hid (HM.out.below hb2); clear HB HM hb2; have HB := n1; have HM := n2; clear n1 n2) | go_in)
  go_ret
  exact ⟨rfl, HB.out⟩
theorem adj_two (A0 : Option Addr) (c0 : Nat) (l0 : List Int) (a1 V : Int) (w : World) (hr0 : Kd.C (Kd.int .i64) w A0 l0.length l0) (H : HolOk l0) (d0 : 0 ≤ a1) (d1 : a1 ≤ 36524) (hV : dn l0 a1 = V) :
    Calls Tryd.prog 23 #[.slice A0 l0.length c0, .int .i64 a1, .int .i64 2] w fun e w' => e = .returned (.int .i64 V) ∧ Below w.heap.size w w' := by
  have HR := Lib.hid hr0
  have HV := Lib.hid hV
  clear hr0 hV
  go_enter Tryd.func23, Tryd.ntmps23
  go_wp2_with (first | (go_at_call 45; (with_reducible refine (hol_yes A0 c0 l0 _ HR.out H).mono ?_); rintro e w1 ⟨B, rfl, HM, HB⟩) | (go_at_call 46; (with_reducible refine (seek_dn l0 B a1 _ HM.out (by omega) d1).mono ?_); rw [HV.out]; rintro e w2 ⟨rfl, hb2⟩; have n1 := Lib.hid (below_then HB.out HB.out.size hb2); have n2 := Lib.hid (HM.out.below hb2); clear HB HM hb2; have HB := n1; have HM := n2; clear n1 n2) | go_in)
  go_ret
  exact ⟨rfl, HB.out⟩
theorem adj_other (A0 : Option Addr) (c0 : Nat) (l0 : List Int) (a1 a2 : Int) (w : World) (hr0 : Kd.C (Kd.int .i64) w A0 l0.length l0) (H : HolOk l0) (d0 : 0 ≤ a1) (d1 : a1 ≤ 36524) (n0 : (a2 == 0) = false) (n1 : (a2 == 1) = false) (n2 : (a2 == 2) = false) (n3 : (a2 == 3) = false) :
    Calls Tryd.prog 23 #[.slice A0 l0.length c0, .int .i64 a1, .int .i64 a2] w fun e w' => e = .returned (.int .i64 (-1)) ∧ Below w.heap.size w w' := by
  have HR := Lib.hid hr0
  clear hr0
  go_enter Tryd.func23, Tryd.ntmps23
  go_wp2_with (first | (go_at_call 45; (with_reducible refine (hol_yes A0 c0 l0 _ HR.out H).mono ?_); rintro e w1 ⟨B, rfl, HM, HB⟩) | go_in)
  go_ret
  exact ⟨rfl, HB.out⟩
/-- AdjustMonth, and there is no next business day. -/
theorem adj_last (A0 : Option Addr) (c0 : Nat) (l0 : List Int) (a1 V : Int) (w : World) (hr0 : Kd.C (Kd.int .i64) w A0 l0.length l0) (H : HolOk l0) (d0 : 0 ≤ a1) (d1 : a1 ≤ 36524) (hU : up l0 a1 = -1) (hV : dn l0 a1 = V) :
    Calls Tryd.prog 23 #[.slice A0 l0.length c0, .int .i64 a1, .int .i64 3] w fun e w' => e = .returned (.int .i64 V) ∧ Below w.heap.size w w' := by
  have HR := Lib.hid hr0
  have HU := Lib.hid hU
  have HV := Lib.hid hV
  clear hr0 hU hV
  go_enter Tryd.func23, Tryd.ntmps23
  go_wp2_with (first | (go_at_call 45; (with_reducible refine (hol_yes A0 c0 l0 _ HR.out H).mono ?_); rintro e w1 ⟨B, rfl, HM, HB⟩) | (go_at_call 46; (with_reducible refine (seek_up l0 B a1 _ HM.out d0 (by omega)).mono ?_); rw [HU.out]; rintro e w2 ⟨rfl, hb2⟩; have n1 := Lib.hid (below_then HB.out HB.out.size hb2); have n2 := Lib.hid (HM.out.below hb2); clear HB HM hb2; have HB := n1; have HM := n2; clear n1 n2) | (go_at_call 46; (with_reducible refine (seek_dn l0 B a1 _ HM.out (by omega) d1).mono ?_); rw [HV.out]; rintro e w2 ⟨rfl, hb2⟩; have n1 := Lib.hid (below_then HB.out HB.out.size hb2); have n2 := Lib.hid (HM.out.below hb2); clear HB HM hb2; have HB := n1; have HM := n2; clear n1 n2) | go_in)
  go_ret
  exact ⟨rfl, HB.out⟩
set_option maxRecDepth 100000 in
set_option maxHeartbeats 4000000 in
/-- AdjustMonth, and the next business day is of the month. -/
theorem adj_same (A0 : Option Addr) (c0 : Nat) (l0 : List Int) (a1 m y1 o1 t1 t2 : Int) (w : World) (hr0 : Kd.C (Kd.int .i64) w A0 l0.length l0) (hT : Tab w) (H : HolOk l0) (d0 : 0 ≤ a1) (d1 : a1 ≤ 36524) (hU : up l0 a1 = m) (m0 : 0 ≤ m)
    (h1 : impl_dateOf.f 200 a1 = some (y1, o1, t1)) (h2 : impl_dateOf.f 200 m = some (y1, o1, t2)) :
    Calls Tryd.prog 23 #[.slice A0 l0.length c0, .int .i64 a1, .int .i64 3] w fun e w' => e = .returned (.int .i64 m) ∧ Below w.heap.size w w' := by
  have HR := Lib.hid hr0
  have HT := Lib.hid hT
  have HU := Lib.hid hU
  have HD1 := Lib.hid h1
  obtain ⟨y2, hy2⟩ : ∃ y, y = y1 := ⟨_, rfl⟩
  obtain ⟨o2, ho2⟩ : ∃ y, y = o1 := ⟨_, rfl⟩
  have h2' : impl_dateOf.f 200 m = some (y2, o2, t2) := by rw [hy2, ho2]; exact h2
  have HD2 := Lib.hid h2'
  have e1 : (y1 == y2) = true := by rw [hy2]; exact beq_self_eq_true _
  have e2 : (o1 == o2) = true := by rw [ho2]; exact beq_self_eq_true _
  clear hr0 hU hT h1 h2 h2' hy2 ho2
  go_enter Tryd.func23, Tryd.ntmps23
  go_wp2_with (first | (go_at_call 45; (with_reducible refine (hol_yes A0 c0 l0 _ HR.out H).mono ?_); rintro e w1 ⟨B, rfl, HM, HB⟩) | (go_at_call 46; (with_reducible refine (seek_up l0 B a1 _ HM.out d0 (by omega)).mono ?_); rw [HU.out]; rintro e w2 ⟨rfl, hb2⟩; have n1 := Lib.hid (below_then HB.out HB.out.size hb2); have n2 := Lib.hid (HM.out.below hb2); clear HB HM hb2; have HB := n1; have HM := n2; clear n1 n2) | (go_at_call 42; (with_reducible refine (impl_dateOf.calls 200 a1 y1 o1 t1 _ (HT.out.below HB.out) HD1.out).mono ?_); rintro e w2 ⟨rfl, hb2⟩; have n1 := Lib.hid (below_then HB.out HB.out.size hb2); have n2 := Lib.hid (HM.out.below hb2); clear HB HM hb2; have HB := n1; have HM := n2; clear n1 n2) | (go_at_call 42; (with_reducible refine (impl_dateOf.calls 200 m y2 o2 t2 _ (HT.out.below HB.out) HD2.out).mono ?_); rintro e w2 ⟨rfl, hb2⟩; have n1 := Lib.hid (below_then HB.out HB.out.size hb2); have n2 := Lib.hid (HM.out.below hb2); clear HB HM hb2; have HB := n1; have HM := n2; clear n1 n2) | go_in)
  go_ret
  exact ⟨rfl, below_alloc (below_alloc HB.out _) _⟩
set_option maxRecDepth 100000 in
set_option maxHeartbeats 4000000 in
/-- AdjustMonth, and the next business day is of another year. -/
theorem adj_year (A0 : Option Addr) (c0 : Nat) (l0 : List Int) (a1 m V y1 o1 t1 y2 o2 t2 : Int) (w : World) (hr0 : Kd.C (Kd.int .i64) w A0 l0.length l0) (hT : Tab w) (H : HolOk l0) (d0 : 0 ≤ a1) (d1 : a1 ≤ 36524) (hU : up l0 a1 = m) (m0 : 0 ≤ m) (hV : dn l0 a1 = V)
    (h1 : impl_dateOf.f 200 a1 = some (y1, o1, t1)) (h2 : impl_dateOf.f 200 m = some (y2, o2, t2)) (e1 : (y1 == y2) = false) :
    Calls Tryd.prog 23 #[.slice A0 l0.length c0, .int .i64 a1, .int .i64 3] w fun e w' => e = .returned (.int .i64 V) ∧ Below w.heap.size w w' := by
  have HR := Lib.hid hr0
  have HT := Lib.hid hT
  have HU := Lib.hid hU
  have HV := Lib.hid hV
  have HD1 := Lib.hid h1
  have HD2 := Lib.hid h2
  clear hr0 hU hT h1 h2 hV
  go_enter Tryd.func23, Tryd.ntmps23
  go_wp2_with (first | (go_at_call 45; (with_reducible refine (hol_yes A0 c0 l0 _ HR.out H).mono ?_); rintro e w1 ⟨B, rfl, HM, HB⟩) | (go_at_call 46; (with_reducible refine (seek_up l0 B a1 _ HM.out d0 (by omega)).mono ?_); rw [HU.out]; rintro e w2 ⟨rfl, hb2⟩; have n1 := Lib.hid (below_then HB.out HB.out.size hb2); have n2 := Lib.hid (HM.out.below hb2); clear HB HM hb2; have HB := n1; have HM := n2; clear n1 n2) | (go_at_call 42; (with_reducible refine (impl_dateOf.calls 200 a1 y1 o1 t1 _ (HT.out.below HB.out) HD1.out).mono ?_); rintro e w2 ⟨rfl, hb2⟩; have n1 := Lib.hid (below_then HB.out HB.out.size hb2); have n2 := Lib.hid (HM.out.below hb2); clear HB HM hb2; have HB := n1; have HM := n2; clear n1 n2) | (go_at_call 42; (with_reducible refine (impl_dateOf.calls 200 m y2 o2 t2 _ (HT.out.below HB.out) HD2.out).mono ?_); rintro e w2 ⟨rfl, hb2⟩; have n1 := Lib.hid (below_then HB.out HB.out.size hb2); have n2 := Lib.hid (HM.out.below hb2); clear HB HM hb2; have HB := n1; have HM := n2; clear n1 n2) | (go_at_call 46; (with_reducible refine (seek_dn l0 B a1 _ ((HM.out.alloc _).alloc _) (by omega) d1).mono ?_); rw [HV.out]; rintro e w2 ⟨rfl, hb2⟩; have n1 := Lib.hid (below_then (below_alloc (below_alloc HB.out _) _) (below_alloc (below_alloc HB.out _) _).size hb2); clear HB hb2; have HB := n1; clear n1) | go_in)
  go_ret
  exact ⟨rfl, HB.out⟩
set_option maxRecDepth 100000 in
set_option maxHeartbeats 4000000 in
/-- AdjustMonth, and the next business day is of another month of the year. -/
theorem adj_month (A0 : Option Addr) (c0 : Nat) (l0 : List Int) (a1 m V y1 o1 t1 y2 o2 t2 : Int) (w : World) (hr0 : Kd.C (Kd.int .i64) w A0 l0.length l0) (hT : Tab w) (H : HolOk l0) (d0 : 0 ≤ a1) (d1 : a1 ≤ 36524) (hU : up l0 a1 = m) (m0 : 0 ≤ m) (hV : dn l0 a1 = V)
    (h1 : impl_dateOf.f 200 a1 = some (y1, o1, t1)) (h2 : impl_dateOf.f 200 m = some (y2, o2, t2)) (e1 : (y1 == y2) = true) (e2 : (o1 == o2) = false) :
    Calls Tryd.prog 23 #[.slice A0 l0.length c0, .int .i64 a1, .int .i64 3] w fun e w' => e = .returned (.int .i64 V) ∧ Below w.heap.size w w' := by
  have HR := Lib.hid hr0
  have HT := Lib.hid hT
  have HU := Lib.hid hU
  have HV := Lib.hid hV
  have HD1 := Lib.hid h1
  have HD2 := Lib.hid h2
  clear hr0 hU hT h1 h2 hV
  go_enter Tryd.func23, Tryd.ntmps23
  go_wp2_with (first | (go_at_call 45; (with_reducible refine (hol_yes A0 c0 l0 _ HR.out H).mono ?_); rintro e w1 ⟨B, rfl, HM, HB⟩) | (go_at_call 46; (with_reducible refine (seek_up l0 B a1 _ HM.out d0 (by omega)).mono ?_); rw [HU.out]; rintro e w2 ⟨rfl, hb2⟩; have n1 := Lib.hid (below_then HB.out HB.out.size hb2); have n2 := Lib.hid (HM.out.below hb2); clear HB HM hb2; have HB := n1; have HM := n2; clear n1 n2) | (go_at_call 42; (with_reducible refine (impl_dateOf.calls 200 a1 y1 o1 t1 _ (HT.out.below HB.out) HD1.out).mono ?_); rintro e w2 ⟨rfl, hb2⟩; have n1 := Lib.hid (below_then HB.out HB.out.size hb2); have n2 := Lib.hid (HM.out.below hb2); clear HB HM hb2; have HB := n1; have HM := n2; clear n1 n2) | (go_at_call 42; (with_reducible refine (impl_dateOf.calls 200 m y2 o2 t2 _ (HT.out.below HB.out) HD2.out).mono ?_); rintro e w2 ⟨rfl, hb2⟩; have n1 := Lib.hid (below_then HB.out HB.out.size hb2); have n2 := Lib.hid (HM.out.below hb2); clear HB HM hb2; have HB := n1; have HM := n2; clear n1 n2) | (go_at_call 46; (with_reducible refine (seek_dn l0 B a1 _ ((HM.out.alloc _).alloc _) (by omega) d1).mono ?_); rw [HV.out]; rintro e w2 ⟨rfl, hb2⟩; have n1 := Lib.hid (below_then (below_alloc (below_alloc HB.out _) _) (below_alloc (below_alloc HB.out _) _).size hb2); clear HB hb2; have HB := n1; clear n1) | go_in)
  go_ret
  exact ⟨rfl, HB.out⟩

theorem impl_AdjustDay.calls (A0 : Option Addr) (c0 : Nat) (l0 : List Int) (a1 : Int) (a2 : Int) (r : Int) (w : World) (hr0 : Kd.C (Kd.int .i64) w A0 l0.length l0) (hc0 : l0.length ≤ c0) (hT : Tab w) (h : impl_AdjustDay.f l0 a1 a2 = some r) :
    Calls Tryd.prog 23 #[.slice A0 l0.length c0, .int .i64 a1, .int .i64 a2] w fun e w' => e = .returned (.int .i64 r) ∧ Below w.heap.size w w' := by
  obtain rfl : Pure.adjustP l0 a1 a2 = r := Option.some.inj h
  unfold Pure.adjustP
  by_cases c : HolOk l0 ∧ 0 ≤ a1 ∧ a1 ≤ 36524
  · obtain ⟨H, d0, d1⟩ := c
    rw [if_pos ⟨holOk_yes H, dayV_yes d0 d1⟩]
    by_cases r0 : a2 = 0
    · subst r0
      rw [if_pos rfl]
      exact adj_zero A0 c0 l0 a1 w hr0 H d0 d1
    rw [if_neg r0]
    by_cases r1 : a2 = 1
    · subst r1
      rw [if_pos rfl]
      exact adj_one A0 c0 l0 a1 _ w hr0 H d0 d1 rfl
    rw [if_neg r1]
    by_cases r2 : a2 = 2
    · subst r2
      rw [if_pos rfl]
      exact adj_two A0 c0 l0 a1 _ w hr0 H d0 d1 rfl
    rw [if_neg r2]
    by_cases r3 : a2 = 3
    · subst r3
      rw [if_pos rfl]
      have ub := up_range l0 a1 d0
      by_cases u0 : 0 ≤ up l0 a1
      · have h1 : impl_dateOf.f 200 a1 = some ((Pure.dateP a1).1, (Pure.dateP a1).2.1, (Pure.dateP a1).2.2) := Pure.impl_dateP a1 200 d0 d1 (by omega)
        have h2 : impl_dateOf.f 200 (up l0 a1) = some ((Pure.dateP (up l0 a1)).1, (Pure.dateP (up l0 a1)).2.1, (Pure.dateP (up l0 a1)).2.2) := Pure.impl_dateP _ 200 u0 ub.2 (by omega)
        cases e1 : (Pure.dateP a1).1 == (Pure.dateP (up l0 a1)).1 with
        | false =>
          rw [if_neg (by simp [Pure.sameYM, e1])]
          exact adj_year A0 c0 l0 a1 _ _ _ _ _ _ _ _ w hr0 hT H d0 d1 rfl u0 rfl h1 h2 e1
        | true =>
          cases e2 : (Pure.dateP a1).2.1 == (Pure.dateP (up l0 a1)).2.1 with
          | false =>
            rw [if_neg (by simp [Pure.sameYM, e1, e2])]
            exact adj_month A0 c0 l0 a1 _ _ _ _ _ _ _ _ w hr0 hT H d0 d1 rfl u0 rfl h1 h2 e1 e2
          | true =>
            rw [if_pos ⟨u0, by simp [Pure.sameYM, e1, e2]⟩]
            rw [← beq_iff_eq.1 e1, ← beq_iff_eq.1 e2] at h2
            exact adj_same A0 c0 l0 a1 _ _ _ _ _ w hr0 hT H d0 d1 rfl u0 h1 h2
      · rw [if_neg (fun e => u0 e.1)]
        exact adj_last A0 c0 l0 a1 _ w hr0 H d0 d1 (by omega) rfl
    rw [if_neg r3]
    exact adj_other A0 c0 l0 a1 a2 w hr0 H d0 d1 (by simpa using r0) (by simpa using r1) (by simpa using r2) (by simpa using r3)
  · rw [if_neg (fun e => c ⟨holOk_iff.1 e.1, (dayV_iff.1 e.2).1, (dayV_iff.1 e.2).2⟩)]
    exact adj_bad A0 c0 l0 a1 a2 w hr0 c
end Go.Proofs.YtnfcljokgnebmaaDoor.Q

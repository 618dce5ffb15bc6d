/-
  The Go function daysIn returns what the plain 'dim' says, for every month that there is, and leaves memory alone. Conditions: the month is in 1..12; the table monthDays holds its numbers.
-/
import Derived.Test.YtnfcljokgnebmaaDoorQx9
import Derived.Test.YtnfcljokgnebmaaDoorTab
import Derived.Lib.Hide
namespace Go.Proofs.YtnfcljokgnebmaaDoor.Q
open Go.RowKit Go.Proofs.YtnfcljokgnebmaaDoorW.PrintWords Go.Proofs.YtnfcljokgnebmaaDoorW.PrintLast
set_option linter.unusedVariables false

def leapB (y : Int) : Bool := decide (Int.tmod y 4 = 0) && (!decide (Int.tmod y 100 = 0) || decide (Int.tmod y 400 = 0))
theorem impl_leap_eq (y : Int) : impl_leap.f y = some (leapB y) := by
  unfold impl_leap.f leapB
  by_cases h4 : Int.tmod y 4 = 0
  · rw [if_pos h4]
    by_cases h1 : Int.tmod y 100 = 0
    · rw [if_pos h1]
      simp [h4, h1]
      rfl
    · rw [if_neg h1]
      simp [h4, h1]
  · rw [if_neg h4]
    simp [h4]
def dim (y m : Int) : Int := if m = 2 ∧ leapB y = true then 29 else mdays.getD (m - 1).toNat 0
def impl_daysIn.f (a0 : Int) (a1 : Int) : Option (Int) := if 1 ≤ a1 ∧ a1 ≤ 12 then some (dim a0 a1) else none

theorem daysIn_other (a0 a1 v : Int) (w : World) (h1 : 1 ≤ a1) (h2 : a1 ≤ 12) (hn : (a1 == 2) = false) (hc : w.cell? ⟨0, a1.toNat - 1, none⟩ = some (.int .i64 v)) :
    Calls Tryd.prog 35 #[.int .i64 a0, .int .i64 a1] w fun e w' => e = .returned (.int .i64 v) ∧ Drawn0 w w' := by
  go_enter Tryd.func35, Tryd.ntmps35
  go_wp2
  go_ret
  exact ⟨rfl, Drawn0.refl _⟩
theorem daysIn_leap (a0 : Int) (w : World) (hb : leapB a0 = true) :
    Calls Tryd.prog 35 #[.int .i64 a0, .int .i64 2] w fun e w' => e = .returned (.int .i64 29) ∧ Drawn0 w w' := by
  have hl : impl_leap.f a0 = some true := by rw [impl_leap_eq, hb]
  have HL := Lib.hid hl
  clear hl hb
  go_enter Tryd.func35, Tryd.ntmps35
  go_wp2_with (go_at_call 53; (with_reducible refine (impl_leap.calls a0 true _ HL.out).mono ?_); rintro e w' ⟨rfl, ⟨nd, rfl⟩⟩)
  go_ret
  exact ⟨rfl, ⟨⟨_, rfl⟩⟩⟩
theorem daysIn_feb (a0 : Int) (w : World) (hb : leapB a0 = false) (hc : w.cell? ⟨0, 1, none⟩ = some (.int .i64 28)) :
    Calls Tryd.prog 35 #[.int .i64 a0, .int .i64 2] w fun e w' => e = .returned (.int .i64 28) ∧ Drawn0 w w' := by
  have hl : impl_leap.f a0 = some false := by rw [impl_leap_eq, hb]
  have HL := Lib.hid hl
  clear hl hb
  go_enter Tryd.func35, Tryd.ntmps35
  go_wp2_with (go_at_call 53; (with_reducible refine (impl_leap.calls a0 false _ HL.out).mono ?_); rintro e w' ⟨rfl, ⟨nd, rfl⟩⟩)
  go_ret
  exact ⟨rfl, ⟨⟨_, rfl⟩⟩⟩

theorem impl_daysIn.calls (a0 : Int) (a1 : Int) (r : Int) (w : World) (hT : Tab w) (h : impl_daysIn.f a0 a1 = some r) :
    Calls Tryd.prog 35 #[.int .i64 a0, .int .i64 a1] w fun e w' => e = .returned (.int .i64 r) ∧ Drawn0 w w' := by
  unfold impl_daysIn.f at h
  by_cases hm : 1 ≤ a1 ∧ a1 ≤ 12
  · rw [if_pos hm] at h
    obtain rfl := Option.some.inj h
    unfold dim
    by_cases h2 : a1 = 2
    · subst h2
      cases hb : leapB a0 with
      | true => rw [if_pos ⟨rfl, rfl⟩]; exact daysIn_leap a0 w hb
      | false => rw [if_neg (by simp)]; exact daysIn_feb a0 w hb (hT 1 (by omega))
    · rw [if_neg (fun e => h2 e.1)]
      rw [show (a1 - 1).toNat = a1.toNat - 1 by omega]
      exact daysIn_other a0 a1 _ w hm.1 hm.2 (by simpa using h2) (hT _ (by omega))
  · rw [if_neg hm] at h
    cases h
end Go.Proofs.YtnfcljokgnebmaaDoor.Q

/-
  The pure statement of FnBusinessBetween (printed Lean functions). Conditions: none beyond the statement's own.
-/
import Derived.Test.YtnfcljokgnebmaaQx18
import Derived.Test.YtnfcljokgnebmaaSpecBiz
import Derived.Test.YtnfcljokgnebmaaBizLaws
import Derived.Test.YtnfcljokgnebmaaDrawBetween
import Derived.Test.YtnfcljokgnebmaaExt
namespace Go.Proofs.Ytnfcljokgnebmaa.Pure
open Go.RowKit Go.Proofs.Ytnfcljokgnebmaa.Q Go.Proofs.YtnfcljokgnebmaaW.PrintWords Go.Proofs.YtnfcljokgnebmaaW.PrintLast Go.Proofs.Ytnfcljokgnebmaa.Biz

theorem FnBusinessBetween : laws_FnBusinessBetween.Pure := by
  intro l hm hl hw
  refine ⟨50000, ?_⟩
  unfold laws_FnBusinessBetween.f
  by_cases hbig : (l.length : Int) > 1048576
  · rw [if_pos hbig]
  rw [if_neg hbig]
  obtain ⟨h, a, b, hd, hlen, a0, a1, b0, b1⟩ := drawBetween_ok 50000 l (by omega) hw
  rw [hd]
  simp only [Option.bind_some]
  rw [show ∀ a b, impl_BusinessBetween.f h a b = some (between h a b) from fun _ _ => rfl, between_eq h a b (by omega) 50000 (by omega)]
  simp only [Option.bind_some, if_true]
  by_cases c : between h a b < 0
  · rw [decide_eq_true c]
    show laws_FnBusinessBetween.j0 (49999 + 1) h a b (between h a b) true = some true
    simp only [laws_FnBusinessBetween.j0]
    rw [if_pos trivial, between_eq h a b (by omega) 49999 (by omega)]
    simp
  · rw [decide_eq_false c]
    obtain ⟨H, h0, hab, hb, hs, he⟩ := between_nonneg (h := h) (a := a) (b := b) (by omega)
    show laws_FnBusinessBetween.j0 (49999 + 1) h a b (between h a b) false = some true
    simp only [laws_FnBusinessBetween.j0]
    rw [if_neg (by simp), w64 (n := a + b) (by omega) (by omega), Int.tdiv_eq_ediv_of_nonneg (by omega), w64 (n := (a + b) / 2) (by omega) (by omega)]
    obtain ⟨m, hmid⟩ : ∃ m, m = (a + b) / 2 := ⟨_, rfl⟩
    rw [← hmid]
    have m0 : a ≤ m ∧ m ≤ b := by omega
    rw [show ∀ a b, impl_BusinessBetween.f h a b = some (between h a b) from fun _ _ => rfl, show ∀ a b, impl_BusinessBetween.f h a b = some (between h a b) from fun _ _ => rfl]
    simp only [Option.bind_some]
    rw [between_eq_cnt H h0 m0.1 (by omega) (by omega), between_eq_cnt H (by omega) m0.2 hb (by omega), he]
    have e : (b - a).toNat = (m - a).toNat + (b - m).toNat := by omega
    have ea : a + ((m - a).toNat : Int) = m := by omega
    rw [e, cnt_add, ea]
    have c1 := cnt_bd h (m - a).toNat a
    have c2 := cnt_bd h (b - m).toNat m
    rw [w64 (by omega) (by omega), if_pos rfl, w64 (by omega) (by omega)]
    have : cnt h (m - a).toNat a + cnt h (b - m).toNat m ≤ b - a := by omega
    simp [this]
end Go.Proofs.Ytnfcljokgnebmaa.Pure

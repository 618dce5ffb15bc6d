/-
  The pure statement of FnCurveOfPrefix (printed Lean functions). Conditions: none beyond the statement's own.
-/
import Derived.Test.YtomhnfajnbhaoaaDoorQx6
import Derived.Test.YtomhnfajnbhaoaaDoorQx9
import Derived.Test.YtomhnfajnbhaoaaDoorCurOf
import Derived.Test.YtomhnfajnbhaoaaDoorDrawCur
namespace Go.Proofs.YtomhnfajnbhaoaaDoor.Pure
open Go.RowKit Go.Proofs.YtomhnfajnbhaoaaDoor.Q Go.Proofs.YtomhnfajnbhaoaaDoorW.PrintWords Go.Proofs.YtomhnfajnbhaoaaDoorW.PrintLast Go.Proofs.YtomhnfajnbhaoaaDoor.Rng

theorem FnCurveOfPrefix : laws_FnCurveOfPrefix.Pure := by
  intro l hm hl hw
  refine ⟨200, ?_⟩
  unfold laws_FnCurveOfPrefix.f
  by_cases hbig : (l.length : Int) > 1048576
  · rw [if_pos hbig]
  rw [if_neg hbig]
  obtain ⟨r, hd⟩ := drawCur_ok 200 l (by omega) hw
  have hc := curF_len r
  rw [hd]
  simp only [Option.bind_some]
  rw [impl_cur _ (by omega)]
  simp only [Option.bind_some]
  rw [spec_cur _ (by omega)]
  simp only [Option.bind_some]
  rw [equalRanges_self _ _ (by omega) (by omega)]
  simp only [Option.bind_some]
  rw [if_pos trivial, if_neg (by simp)]
  have hout : laws_FnCurveOfPrefix.j0 200 r (curF r).1 (curF r).2 (curF r).1 (curF r).2 true = some true := by
    show laws_FnCurveOfPrefix.j0 (199 + 1) _ _ _ _ _ _ = some true
    simp only [laws_FnCurveOfPrefix.j0]
    rw [if_pos trivial, equalRanges_self _ _ (by omega) (by omega)]
    simp
  by_cases hno : ¬ (curF r).2 = true
  · rw [show (!(curF r).2) = true by simpa using hno]
    exact hout
  have hok := Classical.not_not.1 hno
  obtain ⟨h1, h2, h3, o, ho, he, hol, hoc⟩ := curF_ok hok
  rw [show (!(curF r).2) = false by simp [hok]]
  show laws_FnCurveOfPrefix.j0 (199 + 1) _ _ _ _ _ _ = some true
  simp only [laws_FnCurveOfPrefix.j0]
  have hn : wrap64 (Int.tdiv (wrap64 ((r.length : Int) + 1)) 2) = (((r.length + 1) / 2 : Nat) : Int) := by
    rw [w64 (n := (r.length : Int) + 1) (by omega) (by omega), Int.tdiv_eq_ediv_of_nonneg (by omega), w64 (by omega) (by omega)]
    omega
  rw [hn, if_neg (by simp), if_pos (by omega), if_pos (by omega), show ((((r.length + 1) / 2 : Nat) : Int)).toNat = (r.length + 1) / 2 by omega, impl_cur _ (by omega)]
  simp only [Option.bind_some]
  have hle : (r.length + 1) / 2 ≤ r.length := by omega
  generalize (r.length + 1) / 2 = n at *
  have n1 : 1 ≤ n := by
    have := hn
    rw [w64 (n := (r.length : Int) + 1) (by omega) (by omega), Int.tdiv_eq_ediv_of_nonneg (by omega), w64 (by omega) (by omega)] at this
    omega
  have hl : (r.take n).length = n := by simp; omega
  have hr : okRates (r.take n) := fun j hj => by
    rw [getD_take r 0 j n (by omega)]
    exact h1 j (by omega)
  have hs : curSt r n = some (o.take n) := by
    rcases Nat.lt_or_ge n r.length with g | g
    · exact (curSt_at h1 r.length o (Nat.le_refl _) ho n g).1
    · obtain rfl : n = r.length := by omega
      rw [ho, List.take_of_length_le (by omega)]
  have hf : curF (r.take n) = ((o.take n).map toS, true) := by
    rw [curF_yes hr (by omega) (by omega), hl, curSt_prefix r n n (Nat.le_refl _), hs]
    rfl
  rw [hf, he, if_pos (by rfl), if_pos (by simp; omega)]
  show ((laws_equalRanges.f 199 ((o.take n).map toS) ((o.map toS).take n)).bind fun t => some t) = some true
  rw [← List.map_take, equalRanges_self _ _ (by simp; omega) (by simp; omega)]
  rfl
end Go.Proofs.YtomhnfajnbhaoaaDoor.Pure

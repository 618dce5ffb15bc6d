/-
  The pure statement of FnCurveOf (printed Lean functions). Conditions: none beyond the statement's own.
-/
import Derived.Test.YtomhnfajnbhaoaaDoorQx10
import Derived.Test.YtomhnfajnbhaoaaDoorCurOf
import Derived.Test.YtomhnfajnbhaoaaDoorCurPar
import Derived.Test.YtomhnfajnbhaoaaDoorDrawCur
namespace Go.Proofs.YtomhnfajnbhaoaaDoor.Pure
open Go.RowKit Go.Proofs.YtomhnfajnbhaoaaDoor.Q Go.Proofs.YtomhnfajnbhaoaaDoorW.PrintWords Go.Proofs.YtomhnfajnbhaoaaDoorW.PrintLast Go.Proofs.YtomhnfajnbhaoaaDoor.Rng

theorem curveOf_loop (r : List Int) (o : List (Int × Int)) (h1 : okRates r) (h2 : 1 ≤ r.length) (h3 : r.length ≤ 12) (ho : curSt r r.length = some o) (hol : o.length = r.length) (hoc : okCs o) :
    ∀ (d i k : Nat), i + d = r.length → d + 40 < k → laws_FnCurveOf.l0 k r (o.map toS) (i : Int) = some true
  | 0, i, k, hi, hk => by
    obtain ⟨k, rfl⟩ : ∃ m, k = m + 1 := ⟨k - 1, by omega⟩
    simp only [laws_FnCurveOf.l0]
    rw [if_neg (by omega), List.length_map, hol]
    simp
  | d + 1, i, k, hi, hk => by
    obtain ⟨k, rfl⟩ : ∃ m, k = m + 1 := ⟨k - 1, by omega⟩
    have len : (o.map toS).length = r.length := by rw [List.length_map, hol]
    obtain ⟨p1, p2⟩ := par_curve h1 h2 h3 ho (show i < r.length by omega)
    have e : parF (o.map toS) (r.getD i 0) ((i + 1 : Nat) : Int) = ((parV o (r.getD i 0) (i + 1)).1, (parV o (r.getD i 0) (i + 1)).2, true) := by
      unfold parF
      rw [ps_toS, if_pos ⟨⟨hoc, by omega, by omega⟩, h1 i (by omega), by omega, by omega⟩, show (((i + 1 : Nat) : Int)).toNat = i + 1 by omega]
    simp only [laws_FnCurveOf.l0]
    rw [if_pos (by omega), if_pos (by omega), rd_rates, w64 (n := (i : Int) + 1) (by omega) (by omega), show (i : Int) + 1 = ((i + 1 : Nat) : Int) by omega, impl_par _ _ _ _ (by omega) (by omega), e]
    simp only [Option.bind_some]
    rw [if_pos trivial, if_neg (by omega), if_neg (by omega)]
    exact curveOf_loop r o h1 h2 h3 ho hol hoc d (i + 1) k (by omega) (by omega)

theorem FnCurveOf : laws_FnCurveOf.Pure := by
  intro l hm hl hw
  refine ⟨200, ?_⟩
  unfold laws_FnCurveOf.f
  by_cases hbig : (l.length : Int) > 1048576
  · rw [if_pos hbig]
  rw [if_neg hbig]
  obtain ⟨r, hd⟩ := drawCur_ok 200 l (by omega) hw
  have hc := curF_len r
  rw [hd]
  simp only [Option.bind_some]
  rw [impl_cur _ (by omega)]
  simp only [Option.bind_some]
  rw [spec_cur _ (by omega)]
  simp only [Option.bind_some]
  rw [equalRanges_self _ _ (by omega) (by omega)]
  simp only [Option.bind_some]
  rw [if_pos trivial, if_neg (by simp)]
  by_cases hno : ¬ (curF r).2 = true
  · rw [show (!(curF r).2) = true by simpa using hno]
    show laws_FnCurveOf.j0 (199 + 1) _ _ _ _ _ _ = some true
    simp only [laws_FnCurveOf.j0]
    rw [if_pos trivial, equalRanges_self _ _ (by omega) (by omega)]
    simp
  have hok := Classical.not_not.1 hno
  obtain ⟨h1, h2, h3, o, ho, he, hol, hoc⟩ := curF_ok hok
  rw [show (!(curF r).2) = false by simp [hok]]
  show laws_FnCurveOf.j0 (199 + 1) _ _ _ _ _ _ = some true
  simp only [laws_FnCurveOf.j0]
  rw [if_neg (by simp), he]
  exact curveOf_loop r o h1 h2 h3 ho hol hoc r.length 0 199 (by omega) (by omega)
end Go.Proofs.YtomhnfajnbhaoaaDoor.Pure

/-
  The pure statement of FnCurveOfFlat (printed Lean functions). Conditions: none beyond the statement's own.
-/
import Derived.Test.YtomhnfajnbhaoaaDoorQx7
import Derived.Test.YtomhnfajnbhaoaaDoorCurOf
import Derived.Test.YtomhnfajnbhaoaaDoorDrawCur
namespace Go.Proofs.YtomhnfajnbhaoaaDoor.Pure
open Go.RowKit Go.Proofs.YtomhnfajnbhaoaaDoor.Q Go.Proofs.YtomhnfajnbhaoaaDoorW.PrintWords Go.Proofs.YtomhnfajnbhaoaaDoorW.PrintLast Go.Proofs.YtomhnfajnbhaoaaDoor.Rng

theorem FnCurveOfFlat : laws_FnCurveOfFlat.Pure := by
  intro l hm hl hw
  refine ⟨200, ?_⟩
  unfold laws_FnCurveOfFlat.f
  by_cases hbig : (l.length : Int) > 1048576
  · rw [if_pos hbig]
  rw [if_neg hbig]
  obtain ⟨r, hd⟩ := drawCur_ok 200 l (by omega) hw
  have hc := curF_len r
  rw [hd]
  simp only [Option.bind_some]
  rw [impl_cur _ (by omega)]
  simp only [Option.bind_some]
  rw [spec_cur _ (by omega)]
  simp only [Option.bind_some]
  rw [equalRanges_self _ _ (by omega) (by omega)]
  simp only [Option.bind_some]
  rw [if_pos trivial, if_neg (by simp)]
  have hout : laws_FnCurveOfFlat.j0 200 r (curF r).1 (curF r).2 (curF r).1 (curF r).2 true = some true := by
    show laws_FnCurveOfFlat.j0 (199 + 1) _ _ _ _ _ _ = some true
    simp only [laws_FnCurveOfFlat.j0]
    rw [if_pos trivial, equalRanges_self _ _ (by omega) (by omega)]
    simp
  by_cases hno : ¬ (curF r).2 = true
  · rw [show (!(curF r).2) = true by simpa using hno]
    exact hout
  have hok := Classical.not_not.1 hno
  obtain ⟨h1, h2, h3, o, ho, he, hol, hoc⟩ := curF_ok hok
  rw [show (!(curF r).2) = false by simp [hok]]
  show laws_FnCurveOfFlat.j0 (199 + 1) _ _ _ _ _ _ = some true
  simp only [laws_FnCurveOfFlat.j0]
  rw [if_neg (by simp), if_pos (by omega), if_pos (by omega), impl_cur _ (by omega)]
  simp only [Option.bind_some]
  have hz : okRates (List.replicate r.length (0 : Int)) := fun j hj => by
    have hj' : j < r.length := by simpa using hj
    simp [List.getD, hj']
  have hf : curF (List.replicate r.length 0) = ((List.replicate r.length ((1000000, 1000000) : Int × Int)).map toS, true) := by
    rw [curF_yes hz (by simpa using h2) (by simpa using h3), List.length_replicate, curSt_flat]
    rfl
  rw [show ((r.length : Int)).toNat = r.length by omega, hf]
  have loop : ∀ (d i k : Nat), i + d = r.length → d < k → laws_FnCurveOfFlat.l0 k r ((List.replicate r.length ((1000000, 1000000) : Int × Int)).map toS) true (i : Int) = some true := by
    intro d
    induction d with
    | zero =>
      intro i k hi hk
      obtain ⟨k, rfl⟩ : ∃ m, k = m + 1 := ⟨k - 1, by omega⟩
      simp only [laws_FnCurveOfFlat.l0]
      rw [if_neg (by simp; omega), if_pos trivial]
      simp
    | succ d ih =>
      intro i k hi hk
      obtain ⟨k, rfl⟩ : ∃ m, k = m + 1 := ⟨k - 1, by omega⟩
      simp only [laws_FnCurveOfFlat.l0]
      have e : (ps ((List.replicate r.length ((1000000, 1000000) : Int × Int)).map toS)).getD i (0, 0) = (1000000, 1000000) := by
        rw [ps_toS]
        simp [List.getD, show i < r.length by omega]
      rw [if_pos (by simp; omega), if_pos (by omega), rd0, rd1, show ((i : Int)).toNat = i by omega, e, if_neg (by simp), w64 (by omega) (by omega), show (i : Int) + 1 = ((i + 1 : Nat) : Int) by omega]
      exact ih (i + 1) k (by omega) (by omega)
  exact loop r.length 0 199 (by omega) (by omega)
end Go.Proofs.YtomhnfajnbhaoaaDoor.Pure

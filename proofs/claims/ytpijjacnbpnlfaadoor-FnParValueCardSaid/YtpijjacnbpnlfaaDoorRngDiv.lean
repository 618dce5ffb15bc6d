/-
  What the printed Lean functions of ranges are, over pairs of whole numbers. Conditions: they stand in each theorem.
-/
import Derived.Test.YtpijjacnbpnlfaaDoorQx2
import Derived.Test.YtpijjacnbpnlfaaDoorRngFl
namespace Go.Proofs.YtpijjacnbpnlfaaDoor.Rng
open Go.RowKit Go.Proofs.YtpijjacnbpnlfaaDoor.Q Go.Proofs.YtpijjacnbpnlfaaDoorW.PrintWords Go.Proofs.YtpijjacnbpnlfaaDoorW.PrintLast

theorem spec_divRange_is (a b c d : Int) (h : okR a b = true) (k : okR c d = true) (hc : 0 < c) : spec_divRange.f a b c d = some (divLo a d, divHi b c) := by
  have h' := okR_iff.1 h
  have k' := okR_iff.1 k
  unfold spec_divRange.f
  rw [w64 (by omega) (by omega), floorDiv_is _ _ (by omega) (by omega) (by omega), w64 (by omega) (by omega), ceilDiv_is _ _ (by omega) (by omega) (by omega)]
  rfl
end Go.Proofs.YtpijjacnbpnlfaaDoor.Rng

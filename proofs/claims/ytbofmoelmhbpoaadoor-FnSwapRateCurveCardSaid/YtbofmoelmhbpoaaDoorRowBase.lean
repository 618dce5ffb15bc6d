/-
  What every row of this seat uses of the listed variable errRange: the condition gives the error's address, the variable reads again behind a call, and a world that meets the condition. Conditions: none.
-/
import Derived.Test.YtbofmoelmhbpoaaDoorRows
import Derived.Test.YtbofmoelmhbpoaaDoorTab
import Derived.LaidMore
import Derived.ProofKit
import Derived.WalkSmall
import Derived.ChangeVars
import Derived.Stop.Joined
import Derived.Stop.LaidErr
namespace Go.Proofs.YtbofmoelmhbpoaaDoor.RowBase
open Go.RowKit Go.ChangeShapes Go.WideShapes Go.ChangeAt

def laidL : List (String × DataW Unit) := [("loop.example/bonddesk/impl.errRange", Rows.laid_loop_example_bonddesk_impl_errRange)]
theorem gN : Tryd.prog.globalNamed "loop.example/bonddesk/impl.errRange" = some 0 := by kernel_rfl
theorem gT : (Tryd.prog.globals[0]?).map (·.type) = some 50 := by kernel_rfl
theorem star : "*" ++ "errors.errorString" = "*errors.errorString" := by decide
theorem rowT (u : TypeId) (h : Tryd.prog.typeName? 3 u = some "*errors.errorString") : u = 91 :=
  typeName_ptr_named (nm := "errors.errorString") (by rw [star]; kernel_rfl) (by kernel_rfl) (by decide) u (by rw [star]; exact h)
theorem cellsE : Tryd.prog.cellsOf 117 = 1 := by kernel_rfl
theorem cellsS : Tryd.prog.cellsOf 9 = 1 := by kernel_rfl
theorem door_met (os : Os) (args : Array Value) : laidMetH Tryd.prog laidL ((World.doorLaid Tryd.prog 400 os).forCall (fun _ _ => 0) ⟨#[], args, []⟩).memory :=
  laidMetH_of_parts3 (fuel := 8) (laidMet_of_run' 8 (by kernel_rfl) (by kernel_rfl)) (by kernel_rfl) (by kernel_rfl)
theorem sent_of {W : World} (h : laidMetH Tryd.prog laidL W) : ∃ a : Addr, W.var? Tryd.prog "loop.example/bonddesk/impl.errRange" = some #[.iface 91 (.pointer (some a))] := by
  rw [MakeChecks.laidMetH_plain _ _ _ (by kernel_rfl)] at h
  obtain ⟨a, _, hv, _⟩ := laid_sentinel h gN gT Tryd.underlying50 rowT Tryd.underlying91 Tryd.underlying117 rfl rfl Tryd.underlying9 cellsE cellsS
  exact ⟨a, hv⟩
theorem tab_of {W : World} {a : Addr} (h : W.var? Tryd.prog "loop.example/bonddesk/impl.errRange" = some #[.iface 91 (.pointer (some a))]) : @Q.Tab ⟨a⟩ W := by
  have := World.var?_cell gN h 0
  simpa [Q.Tab] using this
theorem tab_ex {W : World} (h : laidMetH Tryd.prog laidL W) : ∃ i : Q.Sent, @Q.Tab i W := by
  obtain ⟨a, hv⟩ := sent_of h
  exact ⟨⟨a⟩, tab_of hv⟩
/-- The variable's datum, and that it reads so behind a call that leaves memory. -/
theorem var_open {H : Type} {enc : TypeId × Value → H} {W : World} {gs : List (DataW H)} {q : List MemPlace} (hL : laidMetH Tryd.prog laidL W) (hV : DataW.TrodVars enc Tryd.prog W (fun _ => true) ["loop.example/bonddesk/impl.errRange"] gs q) :
    ∃ g, ∃ pv : List MemPlace, gs = [g] ∧ ∀ W', Below W.heap.size W W' → ∀ sp, DataW.TrodVars enc Tryd.prog W' sp ["loop.example/bonddesk/impl.errRange"] [g] pv := by
  obtain ⟨a, hv⟩ := sent_of hL
  obtain ⟨rfl, rfl⟩ := hV.unique (vars_read1 enc gN gT Tryd.underlying50 hv trivial _)
  exact ⟨_, _, rfl, fun W' bel sp => vars_read1 enc gN gT Tryd.underlying50 (var?_below bel gN (World.block_lt_of_cell? W _ (show W.cell? ⟨0, 0, none⟩ = some (.iface 91 (.pointer (some a))) by simpa using World.var?_cell gN hv 0)) hv) trivial sp⟩
end Go.Proofs.YtbofmoelmhbpoaaDoor.RowBase

/-
  What every row of this seat uses of the listed variable monthDays: the condition gives the table's cells, the variable reads again behind a call, and a world that meets the condition. Conditions: none.
-/
import Derived.Test.YtnfcljokgnebmaaDoorRows
import Derived.Test.YtnfcljokgnebmaaDoorTab
import Derived.Lib.LaidTab
import Derived.LaidMore
import Derived.ProofKit
import Derived.WalkSmall
import Derived.ChangeVars
import Derived.Stop.Joined
namespace Go.Proofs.YtnfcljokgnebmaaDoor.RowBase
open Go.RowKit Go.ChangeShapes Go.WideShapes Go.ChangeAt

def laidL : List (String × DataW Unit) := [("loop.example/bonddesk/impl.monthDays", Rows.laid_loop_example_bonddesk_impl_monthDays)]
theorem gN : Tryd.prog.globalNamed "loop.example/bonddesk/impl.monthDays" = some 0 := by kernel_rfl
theorem gT : (Tryd.prog.globals[0]?).map (·.type) = some 59 := by kernel_rfl
theorem door_met (os : Os) (args : Array Value) : laidMetH Tryd.prog laidL ((World.doorLaid Tryd.prog 400 os).forCall (fun _ _ => 0) ⟨#[], args, []⟩).memory :=
  laidMetH_of_parts3 (fuel := 8) (laidMet_of_run' 8 (by kernel_rfl) (by kernel_rfl)) (by kernel_rfl) (by kernel_rfl)
theorem is_tab {W : World} (h : laidMetH Tryd.prog laidL W) : Lib.TabIs Tryd.prog W "loop.example/bonddesk/impl.monthDays" .i64 Q.mdays := by
  rw [MakeChecks.laidMetH_plain _ _ _ (by kernel_rfl)] at h
  exact Lib.tabIs_of_head (zs := Q.mdays) (rest := []) gN gT Tryd.underlying59 Tryd.underlying3 (by kernel_rfl) (by kernel_rfl) h
theorem tab_of {W : World} (h : laidMetH Tryd.prog laidL W) : Q.Tab W := fun i hi => (is_tab h).cell gN i hi
def cells12 : Array Value := (Q.mdays.map fun z => Value.int .i64 z).toArray
abbrev tableH {H : Type} : DataW H := Lib.tabData .i64 Q.mdays
theorem reads_table {H : Type} (enc : TypeId × Value → H) (W : World) (sp : Nat → Bool) : DataW.trod enc Tryd.prog W 0 sp true 3 59 cells12.toList = some (tableH, []) := by kernel_rfl
/-- The variable's datum, and that it reads so behind a call that leaves memory. -/
theorem var_open {H : Type} {enc : TypeId × Value → H} {W : World} {gs : List (DataW H)} {q : List MemPlace} (hL : laidMetH Tryd.prog laidL W) (hV : DataW.TrodVars enc Tryd.prog W (fun _ => true) ["loop.example/bonddesk/impl.monthDays"] gs q) :
    ∃ g, ∃ pv : List MemPlace, gs = [g] ∧ ∀ W', Below W.heap.size W W' → ∀ sp, DataW.TrodVars enc Tryd.prog W' sp ["loop.example/bonddesk/impl.monthDays"] [g] pv := by
  obtain ⟨g, t, cs, fuel, d, p', rfl, hg, ht, hvar, hd, rfl⟩ := trodVars_one hV
  obtain rfl := Option.some.inj (gN.symm.trans hg)
  obtain rfl := Option.some.inj (gT.symm.trans ht)
  obtain rfl : cs = cells12 := Option.some.inj (hvar.symm.trans (is_tab hL))
  obtain ⟨rfl, rfl⟩ := DataW.Trod.unique (v := .agg cells12) ⟨fuel, hd⟩ ⟨3, reads_table enc W _⟩
  exact ⟨_, _, rfl, fun W' bel sp => trodVars_mk1 gN gT (var?_below bel gN (World.block_lt_of_cell? W _ (tab_of hL 0 (by omega))) hvar) (reads_table enc W' sp)⟩
end Go.Proofs.YtnfcljokgnebmaaDoor.RowBase

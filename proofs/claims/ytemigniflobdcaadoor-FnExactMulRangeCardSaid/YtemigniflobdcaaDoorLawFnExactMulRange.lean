/-
  FnExactMulRange of the seat Ytemigniflobdcaa.D: for every input the law returns true, and each argument reads behind the call as it read before, the listed variable tied to the program's text. Conditions: those of the given row alone.
-/
import Derived.Test.YtemigniflobdcaaDoorRows
import Derived.Test.YtemigniflobdcaaDoorCards
import Derived.Test.YtemigniflobdcaaDoorTie
import Derived.Test.YtemigniflobdcaaDoorRowBase
import Derived.Test.YtemigniflobdcaaDoorQx24
import Derived.Test.YtemigniflobdcaaDoorPureFnExactMulRange
import Derived.WalkKit
import Derived.ProofKit
import Derived.OpenShut
import Derived.ShutString
import Derived.ChangeOld
import Derived.Below
import Derived.SizedLaws
import Derived.LaidMore
import Derived.Stop.Joined
import Derived.SevenTiedAt
import Derived.ChangeVars
import Derived.Lib.SmallJoins
namespace Go.Proofs.YtemigniflobdcaaDoor.fnExactMulRange
open Go.ChangeShapes Go.WideShapes Go.ChangeAt Go.RowKit
open Go.ChangeMaps (open_string shut_string)
set_option linter.unusedVariables false
theorem own : ownKnob Tryd.prog.godebug = none := by kernel_rfl
theorem walk [Q.Sent] (a0_0 a0_1 : Int) (a1_0 a1_1 : Int) (w : World) (wa0_0 : (Lit.int .i64 a0_0).wf = true) (wa0_1 : (Lit.int .i64 a0_1).wf = true) (wa1_0 : (Lit.int .i64 a1_0).wf = true) (wa1_1 : (Lit.int .i64 a1_1).wf = true) (hT : Q.Tab w) :
    Calls Tryd.prog 11 #[.agg #[.int .i64 a0_0, .int .i64 a0_1], .agg #[.int .i64 a1_0, .int .i64 a1_1]] w fun e w' => e = .returned (.bool true) ∧ Below w.heap.size w w' := by
  obtain ⟨k, h⟩ := Pure.FnExactMulRange a0_0 a0_1 a1_0 a1_1 wa0_0 wa0_1 wa1_0 wa1_1
  refine (Q.laws_FnExactMulRange.calls k a0_0 a0_1 a1_0 a1_1 true w hT h).mono ?_
  rintro e w' ⟨rfl, hd⟩
  exact ⟨rfl, hd⟩
set_option maxRecDepth 100000 in
theorem lifted (os : Os) (started : os.Started) (H : Type) (enc : TypeId × Value → H) :
    ReturnsInHanded {} Tryd.checked os 11 .any (fun w args => (Rows.fnExactMulRangeSpec.pre enc Tryd.prog Tryd.f11 [] false w args ∧ laidMetH Tryd.prog RowBase.laidL w) ∧ sizedMet enc Tryd.prog Tryd.f11 (OpenSpec.ofChange Rows.fnExactMulRangeSpec) false w args)
      (Rows.fnExactMulRangeSpec.post enc Tryd.prog Tryd.f11 false true false false) := by
  refine returnsInHanded_of_change_and (C := Tryd.checked) (X := fun w _ => laidMetH Tryd.prog RowBase.laidL w) (fun _ _ _ hh h => h.of_heap hh) own started (by kernel_rfl) Tryd.func11
    (ChangeSpec.witness_shaped (enc := enc) (C := Tryd.checked) (os := os) (X := fun w _ => laidMetH Tryd.prog RowBase.laidL w) false (World.doorLaid Tryd.prog 400 os) #[.agg #[.int .i64 0, .int .i64 0], .agg #[.int .i64 0, .int .i64 0]] 8 rfl (World.shaped_of_RefB (by kernel_rfl) (by kernel_rfl)) (by kernel_rfl) (by kernel_rfl) (by kernel_rfl) (RowBase.door_met os _)) ?_
  intro W base args ds gs before hval0 hW hcnd hsz0 hL _
  have hsz : (DataW.weightsEach Tryd.prog (Tryd.f11.params.toList ++ Rows.fnExactMulRangeSpec.plain.varTypes Tryd.prog) (ds ++ gs)).all (· ≤ reachBytes) = true := hsz0
  have hval : ∀ (j : Nat) t v, Tryd.f11.params[j]? = some t → args[j]? = some v → Value.okWide Tryd.prog W .any base t v := hval0
  have hW' := hW
  obtain ⟨p, q, hA0, hV, rfl, hfz, hnd⟩ := hW
  have hA : DataW.TrodAll enc Tryd.prog W 0 (fun _ => true) true Tryd.f11.params.toList args.toList ds p := hA0
  rw [Tryd.params11] at hA hval hsz
  obtain ⟨v0, vs0, d0, ds0, p0, q0, hargs, rfl, rfl, h0, r0⟩ := trodAll_cons hA
  obtain ⟨v1, vs1, d1, ds1, p1, q1, rfl, rfl, rfl, h1, r1⟩ := trodAll_cons r0
  obtain ⟨rfl, rfl, rfl⟩ := trodAll_nil r1
  obtain rfl : args = #[v0, v1] := by cases args; simp_all
  obtain ⟨inst, hTab⟩ := RowBase.tab_ex hL
  obtain ⟨gv, pv, hgs, hvars⟩ := RowBase.var_open hL hV
  subst hgs
  obtain ⟨c0_0, c0_1, g0_0, g0_1, m0, rfl, rfl, rfl, e0_0, e0_1⟩ := Go.Joins.open_agg2 Tryd.underlying23 (by kernel_rfl) (by kernel_rfl) (hval 0 23 v0 rfl rfl) h0
  obtain ⟨a0_0, u0_0, rfl, wa0_0⟩ := DataW.trod_int Tryd.underlying3 e0_0
  simp only [List.cons.injEq, and_true] at u0_0
  subst u0_0
  obtain ⟨a0_1, u0_1, rfl, wa0_1⟩ := DataW.trod_int Tryd.underlying3 e0_1
  simp only [List.cons.injEq, and_true] at u0_1
  subst u0_1
  obtain ⟨c1_0, c1_1, g1_0, g1_1, m1, rfl, rfl, rfl, e1_0, e1_1⟩ := Go.Joins.open_agg2 Tryd.underlying23 (by kernel_rfl) (by kernel_rfl) (hval 1 23 v1 rfl rfl) h1
  obtain ⟨a1_0, u1_0, rfl, wa1_0⟩ := DataW.trod_int Tryd.underlying3 e1_0
  simp only [List.cons.injEq, and_true] at u1_0
  subst u1_0
  obtain ⟨a1_1, u1_1, rfl, wa1_1⟩ := DataW.trod_int Tryd.underlying3 e1_1
  simp only [List.cons.injEq, and_true] at u1_1
  subst u1_1
  clear hA0 hval0 hsz0 hsz
  refine (walk a0_0 a0_1 a1_0 a1_1 W wa0_0 wa0_1 wa1_0 wa1_1 hTab).mono fun e W' ⟨he, bel⟩ => ?_
  subst he
  exact ⟨_, rfl, _, _, _, [], _, pv, hW', trodAll_mk1 (shut_bool Tryd.underlying4 _), (trodAll_cons_mk (Go.Joins.shut_agg2 Tryd.underlying23 (by kernel_rfl) (by kernel_rfl) ⟨1, trod_int_mk 0 Tryd.underlying3 wa0_0⟩ ⟨1, trod_int_mk 0 Tryd.underlying3 wa0_1⟩) (trodAll_cons_mk (Go.Joins.shut_agg2 Tryd.underlying23 (by kernel_rfl) (by kernel_rfl) ⟨1, trod_int_mk 0 Tryd.underlying3 wa1_0⟩ ⟨1, trod_int_mk 0 Tryd.underlying3 wa1_1⟩) trodAll_mk0)), hvars _ bel _, bel.frame _, fun h => by cases h⟩
theorem over : Rows.fnExactMulRangeRow.holds Tryd.pinned (OpenSpec.ofChange Rows.fnExactMulRangeSpec) :=
  OpenClaim.holds_of_wide 11 Tryd.f11 rfl rfl rfl rfl rfl rfl rfl ⟨rfl, rfl, rfl, rfl, rfl⟩ rfl rfl rfl rfl rfl (by kernel_rfl) Tryd.func11 (by kernel_rfl)
    (of_decide_eq_true (by kernel_rfl)) (by unfold Func.isWrapper; first | (rw [if_pos (by decide +kernel)]; kernel_rfl) | (rw [if_neg (by decide +kernel)]; exact ⟨rfl, rfl⟩))
    (fun os started H enc _ => lifted os started H enc)
theorem proved : Rows.FnExactMulRangeCardSaid :=
  Claim7.holds_tied_plain_at .later [] [.sentinel] true (true, "3bf1950f08578c85ee35fd1c9e25316423fba25d9d2eaa26ca3be3c04f0110d0") true
    over (fun _ h => by cases h) (by kernel_rfl) (fun _ h => by cases h) fnExactMulRange_row_tie rfl ⟨rfl, rfl⟩ (by kernel_rfl) rfl
    (fun f fn hf hfn => by
      obtain rfl : f = 11 := Option.some.inj ((show Tryd.prog.funcNamed "loop.example/bonddesk/laws.FnExactMulRange" = some 11 by kernel_rfl).symm.trans hf) |>.symm
      obtain rfl : fn = Tryd.f11 := (Option.some.inj (Tryd.func11.symm.trans hfn)).symm
      exact ⟨by kernel_rfl, fun j t ht => by
        rw [Tryd.params11] at ht
        have hm : t ∈ [23, 23] := by simpa using Array.mem_of_getElem? ht
        have hall : ([23, 23].all fun u => !Tryd.prog.wantsStandIn u) = true := by kernel_rfl
        exact (show Tryd.prog.wantsStandIn t = false by simpa using List.all_eq_true.1 hall t hm)⟩)
    (by kernel_rfl)
#print axioms proved
end Go.Proofs.YtemigniflobdcaaDoor.fnExactMulRange
namespace Go.Proofs.YtemigniflobdcaaDoor
/-- The statement, under a short name, for the claim. -/
theorem fnExactMulRange_holds : Rows.FnExactMulRangeCardSaid := fnExactMulRange.proved
end Go.Proofs.YtemigniflobdcaaDoor

/-
  FnExactPowRange of the seat Ytenmpmanbkaabaa.D: for every input the law returns true, and each argument reads behind the call as it read before, the listed variable tied to the program's text. Conditions: those of the given row alone.
-/
import Derived.Test.YtenmpmanbkaabaaDoorRows
import Derived.Test.YtenmpmanbkaabaaDoorCards
import Derived.Test.YtenmpmanbkaabaaDoorTie
import Derived.Test.YtenmpmanbkaabaaDoorRowBase
import Derived.Test.YtenmpmanbkaabaaDoorQx9
import Derived.Test.YtenmpmanbkaabaaDoorPureFnExactPowRange
import Derived.WalkKit
import Derived.ProofKit
import Derived.OpenShut
import Derived.ShutString
import Derived.ChangeOld
import Derived.Below
import Derived.SizedLaws
import Derived.LaidMore
import Derived.Stop.Joined
import Derived.SevenTiedAt
import Derived.ChangeVars
import Derived.Lib.SmallJoins
namespace Go.Proofs.YtenmpmanbkaabaaDoor.fnExactPowRange
open Go.ChangeShapes Go.WideShapes Go.ChangeAt Go.RowKit
open Go.ChangeMaps (open_string shut_string)
set_option linter.unusedVariables false
theorem own : ownKnob Tryd.prog.godebug = none := by kernel_rfl
theorem walk [Q.Sent] (a0_0 a0_1 : Int) (a1 : Int) (w : World) (wa0_0 : (Lit.int .i64 a0_0).wf = true) (wa0_1 : (Lit.int .i64 a0_1).wf = true) (wa1 : (Lit.int .i64 a1).wf = true) (hT : Q.Tab w) :
    Calls Tryd.prog 4 #[.agg #[.int .i64 a0_0, .int .i64 a0_1], .int .i64 a1] w fun e w' => e = .returned (.bool true) ∧ Below w.heap.size w w' := by
  obtain ⟨k, h⟩ := Pure.FnExactPowRange a0_0 a0_1 a1 wa0_0 wa0_1 wa1
  refine (Q.laws_FnExactPowRange.calls k a0_0 a0_1 a1 true w hT h).mono ?_
  rintro e w' ⟨rfl, hd⟩
  exact ⟨rfl, hd⟩
set_option maxRecDepth 100000 in
theorem lifted (os : Os) (started : os.Started) (H : Type) (enc : TypeId × Value → H) :
    ReturnsInHanded {} Tryd.checked os 4 .any (fun w args => (Rows.fnExactPowRangeSpec.pre enc Tryd.prog Tryd.f4 [] false w args ∧ laidMetH Tryd.prog RowBase.laidL w) ∧ sizedMet enc Tryd.prog Tryd.f4 (OpenSpec.ofChange Rows.fnExactPowRangeSpec) false w args)
      (Rows.fnExactPowRangeSpec.post enc Tryd.prog Tryd.f4 false true false false) := by
  refine returnsInHanded_of_change_and (C := Tryd.checked) (X := fun w _ => laidMetH Tryd.prog RowBase.laidL w) (fun _ _ _ hh h => h.of_heap hh) own started (by kernel_rfl) Tryd.func4
    (ChangeSpec.witness_shaped (enc := enc) (C := Tryd.checked) (os := os) (X := fun w _ => laidMetH Tryd.prog RowBase.laidL w) false (World.doorLaid Tryd.prog 400 os) #[.agg #[.int .i64 0, .int .i64 0], .int .i64 0] 8 rfl (World.shaped_of_RefB (by kernel_rfl) (by kernel_rfl)) (by kernel_rfl) (by kernel_rfl) (by kernel_rfl) (RowBase.door_met os _)) ?_
  intro W base args ds gs before hval0 hW hcnd hsz0 hL _
  have hsz : (DataW.weightsEach Tryd.prog (Tryd.f4.params.toList ++ Rows.fnExactPowRangeSpec.plain.varTypes Tryd.prog) (ds ++ gs)).all (· ≤ reachBytes) = true := hsz0
  have hval : ∀ (j : Nat) t v, Tryd.f4.params[j]? = some t → args[j]? = some v → Value.okWide Tryd.prog W .any base t v := hval0
  have hW' := hW
  obtain ⟨p, q, hA0, hV, rfl, hfz, hnd⟩ := hW
  have hA : DataW.TrodAll enc Tryd.prog W 0 (fun _ => true) true Tryd.f4.params.toList args.toList ds p := hA0
  rw [Tryd.params4] at hA hval hsz
  obtain ⟨v0, vs0, d0, ds0, p0, q0, hargs, rfl, rfl, h0, r0⟩ := trodAll_cons hA
  obtain ⟨v1, vs1, d1, ds1, p1, q1, rfl, rfl, rfl, h1, r1⟩ := trodAll_cons r0
  obtain ⟨rfl, rfl, rfl⟩ := trodAll_nil r1
  obtain rfl : args = #[v0, v1] := by cases args; simp_all
  obtain ⟨inst, hTab⟩ := RowBase.tab_ex hL
  obtain ⟨gv, pv, hgs, hvars⟩ := RowBase.var_open hL hV
  subst hgs
  obtain ⟨c0_0, c0_1, g0_0, g0_1, m0, rfl, rfl, rfl, e0_0, e0_1⟩ := Go.Joins.open_agg2 Tryd.underlying27 (by kernel_rfl) (by kernel_rfl) (hval 0 27 v0 rfl rfl) h0
  obtain ⟨a0_0, u0_0, rfl, wa0_0⟩ := DataW.trod_int Tryd.underlying3 e0_0
  simp only [List.cons.injEq, and_true] at u0_0
  subst u0_0
  obtain ⟨a0_1, u0_1, rfl, wa0_1⟩ := DataW.trod_int Tryd.underlying3 e0_1
  simp only [List.cons.injEq, and_true] at u0_1
  subst u0_1
  obtain ⟨a1, rfl, rfl, rfl, w1⟩ := open_int Tryd.underlying3 (hval 1 3 v1 rfl rfl) h1
  clear hA0 hval0 hsz0 hsz
  refine (walk a0_0 a0_1 a1 W wa0_0 wa0_1 w1 hTab).mono fun e W' ⟨he, bel⟩ => ?_
  subst he
  exact ⟨_, rfl, _, _, _, [], _, pv, hW', trodAll_mk1 (shut_bool Tryd.underlying4 _), (trodAll_cons_mk (Go.Joins.shut_agg2 Tryd.underlying27 (by kernel_rfl) (by kernel_rfl) ⟨1, trod_int_mk 0 Tryd.underlying3 wa0_0⟩ ⟨1, trod_int_mk 0 Tryd.underlying3 wa0_1⟩) (trodAll_cons_mk (shut_int Tryd.underlying3 w1) trodAll_mk0)), hvars _ bel _, bel.frame _, fun h => by cases h⟩
theorem over : Rows.fnExactPowRangeRow.holds Tryd.pinned (OpenSpec.ofChange Rows.fnExactPowRangeSpec) :=
  OpenClaim.holds_of_wide 4 Tryd.f4 rfl rfl rfl rfl rfl rfl rfl ⟨rfl, rfl, rfl, rfl, rfl⟩ rfl rfl rfl rfl rfl (by kernel_rfl) Tryd.func4 (by kernel_rfl)
    (of_decide_eq_true (by kernel_rfl)) (by unfold Func.isWrapper; first | (rw [if_pos (by decide +kernel)]; kernel_rfl) | (rw [if_neg (by decide +kernel)]; exact ⟨rfl, rfl⟩))
    (fun os started H enc _ => lifted os started H enc)
theorem proved : Rows.FnExactPowRangeCardSaid :=
  Claim7.holds_tied_plain_at .later [] [.sentinel] true (true, "4c1bc1968f433dd14a68336cd8d9a5781b03ee124bf1887f9bf68fe0128c2f6b") true
    over (fun _ h => by cases h) (by kernel_rfl) (fun _ h => by cases h) fnExactPowRange_row_tie rfl ⟨rfl, rfl⟩ (by kernel_rfl) rfl
    (fun f fn hf hfn => by
      obtain rfl : f = 4 := Option.some.inj ((show Tryd.prog.funcNamed "loop.example/bonddesk/laws.FnExactPowRange" = some 4 by kernel_rfl).symm.trans hf) |>.symm
      obtain rfl : fn = Tryd.f4 := (Option.some.inj (Tryd.func4.symm.trans hfn)).symm
      exact ⟨by kernel_rfl, fun j t ht => by
        rw [Tryd.params4] at ht
        have hm : t ∈ [27, 3] := by simpa using Array.mem_of_getElem? ht
        have hall : ([27, 3].all fun u => !Tryd.prog.wantsStandIn u) = true := by kernel_rfl
        exact (show Tryd.prog.wantsStandIn t = false by simpa using List.all_eq_true.1 hall t hm)⟩)
    (by kernel_rfl)
#print axioms proved
end Go.Proofs.YtenmpmanbkaabaaDoor.fnExactPowRange
namespace Go.Proofs.YtenmpmanbkaabaaDoor
/-- The statement, under a short name, for the claim. -/
theorem fnExactPowRange_holds : Rows.FnExactPowRangeCardSaid := fnExactPowRange.proved
end Go.Proofs.YtenmpmanbkaabaaDoor

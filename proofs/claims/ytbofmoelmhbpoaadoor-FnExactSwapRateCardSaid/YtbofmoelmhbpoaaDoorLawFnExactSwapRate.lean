/-
  FnExactSwapRate of the seat Ytbofmoelmhbpoaa.D: for every input the law returns true, and each argument reads behind the call as it read before, the listed variable tied to the program's text. Conditions: those of the given row alone.
-/
import Derived.Test.YtbofmoelmhbpoaaDoorRows
import Derived.Test.YtbofmoelmhbpoaaDoorCards
import Derived.Test.YtbofmoelmhbpoaaDoorTie
import Derived.Test.YtbofmoelmhbpoaaDoorRowBase
import Derived.Test.YtbofmoelmhbpoaaDoorQx14
import Derived.Test.YtbofmoelmhbpoaaDoorPureFnExactSwapRate
import Derived.Test.YtbofmoelmhbpoaaDoorOpenS
import Derived.WalkKit
import Derived.ProofKit
import Derived.OpenShut
import Derived.ShutString
import Derived.ChangeOld
import Derived.Below
import Derived.SizedLaws
import Derived.LaidMore
import Derived.Stop.Joined
import Derived.SevenTiedAt
import Derived.ChangeVars
import Derived.Test.YtbofmoelmhbpoaaDoorWa
namespace Go.Proofs.YtbofmoelmhbpoaaDoor.fnExactSwapRate
open Go.ChangeShapes Go.WideShapes Go.ChangeAt Go.RowKit
open Go.ChangeMaps (open_string shut_string)
set_option linter.unusedVariables false
theorem own : ownKnob Tryd.prog.godebug = none := by kernel_rfl
theorem laidOut : laidOutB Tryd.prog = true := by kernel_rfl
def IsRow (k : IntKind) (w : World) (a : Option Addr) (len cap : Nat) (zs : List Int) : Prop :=
  (a = none ∧ len = 0 ∧ cap = 0 ∧ zs = []) ∨
  ∃ x, a = some x ∧ len ≤ cap ∧ cap ≤ maxLen ∧ zs.length = cap ∧ (∀ i, i < zs.length → w.cell? (x.add i) = some (.int k (zs.getD i 0))) ∧ ∀ n ∈ zs, (Lit.int k n).wf = true
theorem walk [Q.Sent] (a0 : Option Addr) (len0 cap0 : Nat) (z0 : List (Int × Int)) (a1 : Int) (w : World) (w0 : OpenS.IsPairs w a0 len0 cap0 z0) (w1 : (Lit.int .i64 a1).wf = true) (hT : Q.Tab w) :
    Calls Tryd.prog 5 #[.slice a0 len0 cap0, .int .i64 a1] w fun e w' => e = .returned (.bool true) ∧ Below w.heap.size w w' := by
  have hl0 : (z0.map OpenS.mk).length = len0 := by rw [List.length_map]; exact w0.1
  obtain ⟨k, h⟩ := Pure.FnExactSwapRate (z0.map OpenS.mk) (by rw [hl0]; exact w0.2.2.1) a1 w1
  have c := Q.laws_FnExactSwapRate.calls k a0 cap0 (z0.map OpenS.mk) a1 true w (OpenS.reads_S w0) (by rw [hl0]; exact w0.2.1) hT h
  rw [hl0] at c
  refine c.mono ?_
  rintro e w' ⟨rfl, hd⟩
  exact ⟨rfl, hd⟩
set_option maxRecDepth 100000 in
theorem lifted (os : Os) (started : os.Started) (H : Type) (enc : TypeId × Value → H) :
    ReturnsInHanded {} Tryd.checked os 5 .any (fun w args => (Rows.fnExactSwapRateSpec.pre enc Tryd.prog Tryd.f5 [] false w args ∧ laidMetH Tryd.prog RowBase.laidL w) ∧ sizedMet enc Tryd.prog Tryd.f5 (OpenSpec.ofChange Rows.fnExactSwapRateSpec) false w args)
      (Rows.fnExactSwapRateSpec.post enc Tryd.prog Tryd.f5 false true false false) := by
  refine returnsInHanded_of_change_and (C := Tryd.checked) (X := fun w _ => laidMetH Tryd.prog RowBase.laidL w) (fun _ _ _ hh h => h.of_heap hh) own started (by kernel_rfl) Tryd.func5
    (ChangeSpec.witness_shaped (enc := enc) (C := Tryd.checked) (os := os) (X := fun w _ => laidMetH Tryd.prog RowBase.laidL w) false (World.doorLaid Tryd.prog 400 os) #[.slice none 0 0, .int .i64 0] 8 rfl (World.shaped_of_RefB (by kernel_rfl) (by kernel_rfl)) (by kernel_rfl) (by kernel_rfl) (by kernel_rfl) (RowBase.door_met os _)) ?_
  intro W base args ds gs before hval0 hW hcnd hsz0 hL _
  have hsz : (DataW.weightsEach Tryd.prog (Tryd.f5.params.toList ++ Rows.fnExactSwapRateSpec.plain.varTypes Tryd.prog) (ds ++ gs)).all (· ≤ reachBytes) = true := hsz0
  have hval : ∀ (j : Nat) t v, Tryd.f5.params[j]? = some t → args[j]? = some v → Value.okWide Tryd.prog W .any base t v := hval0
  have hW' := hW
  obtain ⟨p, q, hA0, hV, rfl, hfz, hnd⟩ := hW
  have hA : DataW.TrodAll enc Tryd.prog W 0 (fun _ => true) true Tryd.f5.params.toList args.toList ds p := hA0
  rw [Tryd.params5] at hA hval hsz
  obtain ⟨v0, vs0, d0, ds0, p0, q0, hargs, rfl, rfl, h0, r0⟩ := trodAll_cons hA
  obtain ⟨v1, vs1, d1, ds1, p1, q1, rfl, rfl, rfl, h1, r1⟩ := trodAll_cons r0
  obtain ⟨rfl, rfl, rfl⟩ := trodAll_nil r1
  obtain rfl : args = #[v0, v1] := by cases args; simp_all
  obtain ⟨inst, hTab⟩ := RowBase.tab_ex hL
  obtain ⟨gv, pv, hgs, hvars⟩ := RowBase.var_open hL hV
  subst hgs
  obtain ⟨a0, len0, cap0, rfl⟩ := okWide_slice Tryd.underlying38 (hval 0 38 v0 rfl rfl)
  have k0 := h0
  have lt0 : ∀ x ∈ p0, x.block < W.heap.size := by obtain ⟨m, hm⟩ := k0; exact DataW.trod_lt m _ _ _ hm
  obtain ⟨z0, w0⟩ := OpenS.open_pairs Tryd.underlying38 Tryd.underlying63 (by kernel_rfl) rfl rfl (by kernel_rfl) (by kernel_rfl) Tryd.underlying3 Tryd.underlying3 h0
  obtain ⟨a1, rfl, rfl, rfl, w1⟩ := open_int Tryd.underlying3 (hval 1 3 v1 rfl rfl) h1
  clear hA0 hval0 hsz0 hsz
  refine (walk a0 len0 cap0 z0 a1 W w0 w1 hTab).mono fun e W' ⟨he, bel⟩ => ?_
  subst he
  exact ⟨_, rfl, _, _, _, [], _, pv, hW', trodAll_mk1 (shut_bool Tryd.underlying4 _), (trodAll_cons_mk (Below.trod laidOut (by kernel_rfl) (of_decide_eq_true (by kernel_rfl)) k0 bel lt0) (trodAll_cons_mk (shut_int Tryd.underlying3 w1) trodAll_mk0)), hvars _ bel _, bel.frame _, fun h => by cases h⟩
theorem over : Rows.fnExactSwapRateRow.holds Tryd.pinned (OpenSpec.ofChange Rows.fnExactSwapRateSpec) :=
  OpenClaim.holds_of_wide 5 Tryd.f5 rfl rfl rfl rfl rfl rfl rfl ⟨rfl, rfl, rfl, rfl, rfl⟩ rfl rfl rfl rfl rfl (by kernel_rfl) Tryd.func5 (by kernel_rfl)
    (of_decide_eq_true (by kernel_rfl)) (by unfold Func.isWrapper; first | (rw [if_pos (by decide +kernel)]; kernel_rfl) | (rw [if_neg (by decide +kernel)]; exact ⟨rfl, rfl⟩))
    (fun os started H enc _ => lifted os started H enc)
theorem proved : Rows.FnExactSwapRateCardSaid :=
  Claim7.holds_tied_plain_at .later [] [.sentinel] true (true, "cf6f5c0873e71410133ffe73d35277138c1ec376b9ef6875ac2c7a4cef3e9a78") true
    over (fun _ h => by cases h) (by kernel_rfl) (fun _ h => by cases h) fnExactSwapRate_row_tie rfl ⟨rfl, rfl⟩ (by kernel_rfl) rfl
    (fun f fn hf hfn => by
      obtain rfl : f = 5 := Option.some.inj ((show Tryd.prog.funcNamed "loop.example/bonddesk/laws.FnExactSwapRate" = some 5 by kernel_rfl).symm.trans hf) |>.symm
      obtain rfl : fn = Tryd.f5 := (Option.some.inj (Tryd.func5.symm.trans hfn)).symm
      exact ⟨by kernel_rfl, fun j t ht => by
        rw [Tryd.params5] at ht
        have hm : t ∈ [38, 3] := by simpa using Array.mem_of_getElem? ht
        have hall : ([38, 3].all fun u => !Tryd.prog.wantsStandIn u) = true := by kernel_rfl
        exact (show Tryd.prog.wantsStandIn t = false by simpa using List.all_eq_true.1 hall t hm)⟩)
    (by kernel_rfl)
#print axioms proved
end Go.Proofs.YtbofmoelmhbpoaaDoor.fnExactSwapRate
namespace Go.Proofs.YtbofmoelmhbpoaaDoor
/-- The statement, under a short name, for the claim. -/
theorem fnExactSwapRate_holds : Rows.FnExactSwapRateCardSaid := fnExactSwapRate.proved
end Go.Proofs.YtbofmoelmhbpoaaDoor

/- Printed by a program (bprint.py) out of the translation: for each Go function a Lean function, and the proof that the call comes to its answers. Conditions: they stand in each theorem. -/
import Derived.Test.YtemigniflobdcaaDoorQx0
import Derived.Test.YtemigniflobdcaaDoorQx1
import Derived.Test.YtemigniflobdcaaDoorQx22
import Derived.Test.YtemigniflobdcaaDoorQx23
import Derived.Test.YtemigniflobdcaaDoorQx27
import Derived.Test.YtemigniflobdcaaDoorQx29
import Derived.Test.YtemigniflobdcaaDoorTab
namespace Go.Proofs.YtemigniflobdcaaDoor.Q
open Go.RowKit Go.Proofs.YtemigniflobdcaaDoorW.PrintWords Go.Proofs.YtemigniflobdcaaDoorW.PrintLast Go.Proofs.YtemigniflobdcaaDoorW.PrintMore
attribute [local go_sem] max2_int min2_int max_two min_two max_three min_three max_four min_four   -- for this text's walks alone
set_option linter.unusedVariables false
set_option linter.unusedSimpArgs false

attribute [local go_sem high] eqA25
set_option linter.unusedSectionVars false
variable [Sent]

/-! ### laws_FnMulRangeInside: function 14 -/
def laws_FnMulRangeInside.j0 : Nat → Bool → Bool → Bool → Int → Int → Int → Int → Int → Int → Int → Int → Option (Bool)
  | 0, _, _, _, _, _, _, _, _, _, _, _ => none
  | k + 1, x6, x8, x42, x541000, x541001, x542000, x542001, x546000, x546001, x550000, x550001 => if x42 = true then (if (x546000 == x550000 && (x546001 == x550001)) = true then (some (x6 == x8)) else (some false)) else ((impl_MulRange.f x541000 x541000 x542000 x542001).bind fun bt550 => (if bt550.2.2 = true then ((laws_within.f bt550.1 bt550.2.1 x546000 x546001).bind fun t554 => (some t554)) else (some false)))
def laws_FnMulRangeInside.f (k : Nat) (l0 : List Int) : Option (Bool) := if (l0.length : Int) > 1048576 then (some true) else ((spec_DrawMulRange.f k l0).bind fun bt536 => ((impl_MulRange.f bt536.1 bt536.2.1 bt536.2.2.1 bt536.2.2.2).bind fun bt542 => ((spec_MulRange.f k bt536.1 bt536.2.1 bt536.2.2.1 bt536.2.2.2).bind fun bt546 => (if (!(bt542.1 == bt546.1) || (!(bt542.2.1 == bt546.2.1))) = true then (laws_FnMulRangeInside.j0 k bt542.2.2 bt546.2.2 true bt536.1 bt536.2.1 bt536.2.2.1 bt536.2.2.2 bt542.1 bt542.2.1 bt546.1 bt546.2.1) else (if (bt542.2.2 != bt546.2.2) = true then (laws_FnMulRangeInside.j0 k bt542.2.2 bt546.2.2 true bt536.1 bt536.2.1 bt536.2.2.1 bt536.2.2.2 bt542.1 bt542.2.1 bt546.1 bt546.2.1) else (laws_FnMulRangeInside.j0 k bt542.2.2 bt546.2.2 (!bt542.2.2) bt536.1 bt536.2.1 bt536.2.2.1 bt536.2.2.2 bt542.1 bt542.2.1 bt546.1 bt546.2.1))))))
theorem laws_FnMulRangeInside.mono_l : ∀ k, (∀ y0 y1 y2 y3 y4 y5 y6 y7 y8 y9 y10, LeO (laws_FnMulRangeInside.j0 k y0 y1 y2 y3 y4 y5 y6 y7 y8 y9 y10) (laws_FnMulRangeInside.j0 (k + 1) y0 y1 y2 y3 y4 y5 y6 y7 y8 y9 y10))
  | 0 => fun _ _ _ _ _ _ _ _ _ _ _ r h => by simp [laws_FnMulRangeInside.j0] at h
  | k + 1 => by
    have ih0 := laws_FnMulRangeInside.mono_l k
    · intro y0 y1 y2 y3 y4 y5 y6 y7 y8 y9 y10
      unfold laws_FnMulRangeInside.j0
      repeat' first
      | (with_reducible exact ih0 _ _ _ _ _ _ _ _ _ _ _)
      | (with_reducible exact spec_DrawMulRange.mono _ _)
      | (with_reducible exact spec_MulRange.mono _ _ _ _ _)
      | (with_reducible exact LeO.refl _)
      | (with_reducible exact LeO.none _)
      | (with_reducible refine LeO.ite ?_ ?_)
      | (with_reducible refine LeO.bind ?_ (fun _ => ?_))
      | exact ih0 _ _ _ _ _ _ _ _ _ _ _
      | exact spec_DrawMulRange.mono _ _
      | exact spec_MulRange.mono _ _ _ _ _
      | exact LeO.none _
      | refine LeO.ite ?_ ?_
      | refine LeO.bind ?_ (fun _ => ?_)
theorem laws_FnMulRangeInside.mono : ∀ a0 k, LeO (laws_FnMulRangeInside.f k a0) (laws_FnMulRangeInside.f (k + 1) a0) := by
  intro a0 k
  have ih0 := laws_FnMulRangeInside.mono_l k
  unfold laws_FnMulRangeInside.f
  repeat' first
      | (with_reducible exact ih0 _ _ _ _ _ _ _ _ _ _ _)
      | (with_reducible exact spec_DrawMulRange.mono _ _)
      | (with_reducible exact spec_MulRange.mono _ _ _ _ _)
      | (with_reducible exact LeO.refl _)
      | (with_reducible exact LeO.none _)
      | (with_reducible refine LeO.ite ?_ ?_)
      | (with_reducible refine LeO.bind ?_ (fun _ => ?_))
      | exact ih0 _ _ _ _ _ _ _ _ _ _ _
      | exact spec_DrawMulRange.mono _ _
      | exact spec_MulRange.mono _ _ _ _ _
      | exact LeO.none _
      | refine LeO.ite ?_ ?_
      | refine LeO.bind ?_ (fun _ => ?_)
set_option maxHeartbeats 8000000 in
set_option maxRecDepth 100000 in
theorem laws_FnMulRangeInside.calls (k : Nat) (A0 : Option Addr) (c0 : Nat) (l0 : List Int) (r : Bool) (w : World) (hr0 : Kd.C (Kd.int .u8) w A0 l0.length l0) (hc0 : l0.length ≤ c0) (hT : Tab w) (h : laws_FnMulRangeInside.f k l0 = some r) :
    Calls Tryd.prog 14 #[.slice A0 l0.length c0] w fun e w' => e = .returned (.bool r) ∧ Below w.heap.size w w' := by
  have hu25 := Tryd.underlying25
  have HTab := Aside0.mk hT
  clear hT
  have HR0 := Aside0.mk hr0
  have HC0 := Aside0.mk hc0
  clear hr0 hc0
  have HB := Aside0.mk (Below.refl w.heap.size w)
  have H : (if (l0.length : Int) > 1048576 then (some true) else ((spec_DrawMulRange.f k l0).bind fun bt536 => ((impl_MulRange.f bt536.1 bt536.2.1 bt536.2.2.1 bt536.2.2.2).bind fun bt542 => ((spec_MulRange.f k bt536.1 bt536.2.1 bt536.2.2.1 bt536.2.2.2).bind fun bt546 => (if (!(bt542.1 == bt546.1) || (!(bt542.2.1 == bt546.2.1))) = true then (laws_FnMulRangeInside.j0 k bt542.2.2 bt546.2.2 true bt536.1 bt536.2.1 bt536.2.2.1 bt536.2.2.2 bt542.1 bt542.2.1 bt546.1 bt546.2.1) else (if (bt542.2.2 != bt546.2.2) = true then (laws_FnMulRangeInside.j0 k bt542.2.2 bt546.2.2 true bt536.1 bt536.2.1 bt536.2.2.1 bt536.2.2.2 bt542.1 bt542.2.1 bt546.1 bt546.2.1) else (laws_FnMulRangeInside.j0 k bt542.2.2 bt546.2.2 (!bt542.2.2) bt536.1 bt536.2.1 bt536.2.2.1 bt536.2.2.2 bt542.1 bt542.2.1 bt546.1 bt546.2.1))))))) = some r := h
  clear h
  by_cases c2 : (l0.length : Int) > 1048576
  · rw [if_pos c2] at H
    have c2b0 : decide (1048576 < (l0.length : Int)) = true := decide_eq_true c2
    have c2b1 : decide (1048576 < l0.length) = true := decide_eq_true (by omega)
    clear c2
    obtain rfl := Option.some.inj H
    go_enter Tryd.func14, Tryd.ntmps14
    go_wp2
    go_ret
    exact ⟨by first | rfl | (simp [errW_none, errW_some] <;> rfl) | (simp [*, errW_none, errW_some] <;> rfl), by repeat (first | (with_reducible first | exact HB.out | apply below_alloc | apply pw_below_drewN | apply below_drew1) | exact HB.out)⟩
  · rw [if_neg c2] at H
    have c2b0 : decide (1048576 < (l0.length : Int)) = false := decide_eq_false c2
    have c2b1 : decide (1048576 < l0.length) = false := decide_eq_false (by omega)
    clear c2
    replace H := Option.bind_eq_some_iff.mp H
    obtain ⟨⟨t536, t537, t538, t539⟩, A30, H⟩ := H
    replace H : ((impl_MulRange.f t536 t537 t538 t539).bind fun bt542 => ((spec_MulRange.f k t536 t537 t538 t539).bind fun bt546 => (if (!(bt542.1 == bt546.1) || (!(bt542.2.1 == bt546.2.1))) = true then (laws_FnMulRangeInside.j0 k bt542.2.2 bt546.2.2 true t536 t537 t538 t539 bt542.1 bt542.2.1 bt546.1 bt546.2.1) else (if (bt542.2.2 != bt546.2.2) = true then (laws_FnMulRangeInside.j0 k bt542.2.2 bt546.2.2 true t536 t537 t538 t539 bt542.1 bt542.2.1 bt546.1 bt546.2.1) else (laws_FnMulRangeInside.j0 k bt542.2.2 bt546.2.2 (!bt542.2.2) t536 t537 t538 t539 bt542.1 bt542.2.1 bt546.1 bt546.2.1))))) = some r := H
    have A3 := Aside0.mk A30
    clear A30
    replace H := Option.bind_eq_some_iff.mp H
    obtain ⟨⟨t542, t543, t544⟩, A40, H⟩ := H
    replace H : ((spec_MulRange.f k t536 t537 t538 t539).bind fun bt546 => (if (!(t542 == bt546.1) || (!(t543 == bt546.2.1))) = true then (laws_FnMulRangeInside.j0 k t544 bt546.2.2 true t536 t537 t538 t539 t542 t543 bt546.1 bt546.2.1) else (if (t544 != bt546.2.2) = true then (laws_FnMulRangeInside.j0 k t544 bt546.2.2 true t536 t537 t538 t539 t542 t543 bt546.1 bt546.2.1) else (laws_FnMulRangeInside.j0 k t544 bt546.2.2 (!t544) t536 t537 t538 t539 t542 t543 bt546.1 bt546.2.1)))) = some r := H
    have A4 := Aside0.mk A40
    clear A40
    replace H := Option.bind_eq_some_iff.mp H
    obtain ⟨⟨t546, t547, t548⟩, A50, H⟩ := H
    replace H : (if (!(t542 == t546) || (!(t543 == t547))) = true then (laws_FnMulRangeInside.j0 k t544 t548 true t536 t537 t538 t539 t542 t543 t546 t547) else (if (t544 != t548) = true then (laws_FnMulRangeInside.j0 k t544 t548 true t536 t537 t538 t539 t542 t543 t546 t547) else (laws_FnMulRangeInside.j0 k t544 t548 (!t544) t536 t537 t538 t539 t542 t543 t546 t547))) = some r := H
    have A5 := Aside0.mk A50
    clear A50
    have HC6 := Aside0.mk H
    clear H
    go_enter Tryd.func14, Tryd.ntmps14
    go_upto_region 6 with (first | ((with_reducible refine gate_callee (f := 32) rfl ?_); refine goesL_ (some 16) rfl rfl Tryd.func32 (by kernel_rfl) rfl #[.slice A0 l0.length c0] rfl (by (try simp only [List.map_toArray, List.map_cons, List.map_nil]); first | done | rfl | (simp only [List.length_drop, List.length_take]; rfl)) ?_; (with_reducible refine (spec_DrawMulRange.calls k _ _ l0 t536 t537 t538 t539 _ ?side1 ?side2 A3.out).mono ?_); (case side1 => repeat (first | exact HR0.out | (with_reducible refine Kd.C_alloc ?_ _) | (with_reducible refine Kd.C_drewN ?_ _) | (with_reducible refine Kd.C_drew ?_))); (case side2 => exact HC0.out); rintro e w7 ⟨rfl, hb⟩; refine ⟨_, rfl, ?_⟩; have n0_ := Aside0.mk (below_step (by repeat (first | (with_reducible first | exact HB.out | apply below_alloc | apply pw_below_drewN | apply below_drew1) | exact HB.out)) hb); clear HB; have HB := n0_; clear n0_; (try clear hb); (try clear hb2); (try clear hk); (try clear hi)) | ((with_reducible refine gate_dst (N := 3) rfl ?_); refine box_event ?hg (N := 3) ?hd (cs := #[.int .i64 0, .int .i64 0]) (t := 25) ?hr ?_; (case hd => rfl); (case hg => rfl); (case hr => first | (go_simp; done) | (go_simp; rfl)); intro gb540 hg w8 hbox hb; have n0_ := Aside0.mk (below_step (by repeat (first | (with_reducible first | exact HB.out | apply below_alloc | apply pw_below_drewN | apply below_drew1) | exact HB.out)) hb); have n1_ := Aside0.mk (hbox); have n2_ := Aside0.mk ((by rw [hg]; exact (below_size (by repeat (first | (with_reducible first | exact HB.out | apply below_alloc | apply pw_below_drewN | apply below_drew1) | exact HB.out))) : w.heap.size ≤ gb540)); have n3_ := Aside0.mk ((by rw [hg]; exact (below_size (by repeat (first | (with_reducible first | exact HB.out | apply below_alloc | apply pw_below_drewN | apply below_drew1) | exact HB.out))) : w.heap.size ≤ gb540)); clear HB; have HB := n0_; have BK540 := n1_; have GW540 := n2_; have GE540 := n3_; clear n0_ n1_ n2_ n3_; clear hb hbox hg) | ((with_reducible refine gate_dst (N := 4) rfl ?_); refine box_event ?hg (N := 4) ?hd (cs := #[.int .i64 0, .int .i64 0]) (t := 25) ?hr ?_; (case hd => rfl); (case hg => rfl); (case hr => first | (go_simp; done) | (go_simp; rfl)); intro gb541 hg w9 hbox hb; have n0_ := Aside0.mk (blk_below (g := gb540) (o := .cells #[.int .i64 0, .int .i64 0] 25 (0, 0)) (by (with_reducible repeat (first | refine blk_drewN ?_ _ | refine blk_drew ?_ | refine blk_alloc ?_ _)); exact BK540.out) hb); have n1_ := Aside0.mk (below_step (by repeat (first | (with_reducible first | exact HB.out | apply below_alloc | apply pw_below_drewN | apply below_drew1 | refine below_set ?_ GE540.out) | exact HB.out)) hb); have n2_ := Aside0.mk (hbox); have n3_ := Aside0.mk ((by rw [hg]; exact (below_size (by repeat (first | (with_reducible first | exact HB.out | apply below_alloc | apply pw_below_drewN | apply below_drew1 | refine below_set ?_ GE540.out) | exact HB.out))) : w.heap.size ≤ gb541)); have n4_ := Aside0.mk ((by rw [hg]; exact (below_size (by repeat (first | (with_reducible first | exact HB.out | apply below_alloc | apply pw_below_drewN | apply below_drew1 | refine below_set ?_ GE540.out) | exact HB.out))) : w.heap.size ≤ gb541)); have n5_ := Aside0.mk ((by rw [hg]; exact Nat.ne_of_lt (blk_lt (g := gb540) (o := .cells #[.int .i64 0, .int .i64 0] 25 (0, 0)) (by (with_reducible repeat (first | refine blk_drewN ?_ _ | refine blk_drew ?_ | refine blk_alloc ?_ _)); exact BK540.out)) : gb540 ≠ gb541)); have n6_ := Aside0.mk ((by rw [hg]; exact Nat.ne_of_gt (blk_lt (g := gb540) (o := .cells #[.int .i64 0, .int .i64 0] 25 (0, 0)) (by (with_reducible repeat (first | refine blk_drewN ?_ _ | refine blk_drew ?_ | refine blk_alloc ?_ _)); exact BK540.out)) : gb541 ≠ gb540)); clear BK540; clear HB; have BK540 := n0_; have HB := n1_; have BK541 := n2_; have GW541 := n3_; have GE541 := n4_; have NB540_541 := n5_; have NB541_540 := n6_; clear n0_ n1_ n2_ n3_ n4_ n5_ n6_; clear hb hbox hg; have hnb10 := NB540_541.out; have hnc10 := NB541_540.out; have hcz11_0 : w9.cell? ⟨gb540, 0, none⟩ = some (.int .i64 0) := (blk_cell BK540.out 0).trans rfl; have hcz11_1 : w9.cell? ⟨gb540, 1, none⟩ = some (.int .i64 0) := (blk_cell BK540.out 1).trans rfl; have hfz11_0 := blk_frozen BK540.out 0; have hfz11_1 := blk_frozen BK540.out 1; have hcz12_0 : w9.cell? ⟨gb541, 0, none⟩ = some (.int .i64 0) := (blk_cell BK541.out 0).trans rfl; have hcz12_1 : w9.cell? ⟨gb541, 1, none⟩ = some (.int .i64 0) := (blk_cell BK541.out 1).trans rfl; have hfz12_0 := blk_frozen BK541.out 0; have hfz12_1 := blk_frozen BK541.out 1) | ((with_reducible refine gate_callee (f := 30) rfl ?_); refine goesL_ (some 22) rfl rfl Tryd.func30 (by kernel_rfl) rfl #[.agg #[.int .i64 t536, .int .i64 t537], .agg #[.int .i64 t538, .int .i64 t539]] rfl (by (try simp only [List.map_toArray, List.map_cons, List.map_nil]); first | done | rfl | (simp only [List.length_drop, List.length_take]; rfl)) ?_; (with_reducible refine (impl_MulRange.calls t536 t537 t538 t539 t542 t543 t544 _ ?side1 A4.out).mono ?_); (case side1 => first | exact HTab.out | exact Tab.below HTab.out (by repeat (first | (with_reducible first | exact HB.out | apply below_alloc | apply pw_below_drewN | apply below_drew1 | refine below_set ?_ GE540.out | refine below_set ?_ GE541.out) | exact HB.out))); rintro e w13 ⟨rfl, hb⟩; refine ⟨_, rfl, ?_⟩; have n0_ := Aside0.mk (blk_below (g := gb540) (o := .cells #[.int .i64 t536, .int .i64 t537] 25 (0, 0)) (by (with_reducible repeat (first | refine blk_drewN ?_ _ | refine blk_drew ?_ | refine blk_alloc ?_ _)); refine blk_far ?_ NB540_541.out _; (with_reducible repeat (first | refine blk_drewN ?_ _ | refine blk_drew ?_ | refine blk_alloc ?_ _)); refine blk_far ?_ NB540_541.out _; (with_reducible repeat (first | refine blk_drewN ?_ _ | refine blk_drew ?_ | refine blk_alloc ?_ _)); refine blk_put (cs := #[.int .i64 t536, .int .i64 0]) ?_ 1 _ rfl; (with_reducible repeat (first | refine blk_drewN ?_ _ | refine blk_drew ?_ | refine blk_alloc ?_ _)); refine blk_put (cs := #[.int .i64 0, .int .i64 0]) ?_ 0 _ rfl; (with_reducible repeat (first | refine blk_drewN ?_ _ | refine blk_drew ?_ | refine blk_alloc ?_ _)); exact BK540.out) hb); have n1_ := Aside0.mk (blk_below (g := gb541) (o := .cells #[.int .i64 t538, .int .i64 t539] 25 (0, 0)) (by (with_reducible repeat (first | refine blk_drewN ?_ _ | refine blk_drew ?_ | refine blk_alloc ?_ _)); refine blk_put (cs := #[.int .i64 t538, .int .i64 0]) ?_ 1 _ rfl; (with_reducible repeat (first | refine blk_drewN ?_ _ | refine blk_drew ?_ | refine blk_alloc ?_ _)); refine blk_put (cs := #[.int .i64 0, .int .i64 0]) ?_ 0 _ rfl; (with_reducible repeat (first | refine blk_drewN ?_ _ | refine blk_drew ?_ | refine blk_alloc ?_ _)); refine blk_far ?_ NB541_540.out _; (with_reducible repeat (first | refine blk_drewN ?_ _ | refine blk_drew ?_ | refine blk_alloc ?_ _)); refine blk_far ?_ NB541_540.out _; (with_reducible repeat (first | refine blk_drewN ?_ _ | refine blk_drew ?_ | refine blk_alloc ?_ _)); exact BK541.out) hb); have n2_ := Aside0.mk (below_step (by repeat (first | (with_reducible first | exact HB.out | apply below_alloc | apply pw_below_drewN | apply below_drew1 | refine below_set ?_ GE540.out | refine below_set ?_ GE541.out) | exact HB.out)) hb); clear BK540; clear BK541; clear HB; have BK540 := n0_; have BK541 := n1_; have HB := n2_; clear n0_ n1_ n2_; (try clear hb); (try clear hb2); (try clear hk); (try clear hi)) | ((with_reducible refine gate_dst (N := 5) rfl ?_); refine box_event ?hg (N := 5) ?hd (cs := #[.int .i64 0, .int .i64 0]) (t := 25) ?hr ?_; (case hd => rfl); (case hg => rfl); (case hr => first | (go_simp; done) | (go_simp; rfl)); intro gb545 hg w14 hbox hb; have n0_ := Aside0.mk (blk_below (g := gb540) (o := .cells #[.int .i64 t536, .int .i64 t537] 25 (0, 0)) (by (with_reducible repeat (first | refine blk_drewN ?_ _ | refine blk_drew ?_ | refine blk_alloc ?_ _)); exact BK540.out) hb); have n1_ := Aside0.mk (blk_below (g := gb541) (o := .cells #[.int .i64 t538, .int .i64 t539] 25 (0, 0)) (by (with_reducible repeat (first | refine blk_drewN ?_ _ | refine blk_drew ?_ | refine blk_alloc ?_ _)); exact BK541.out) hb); have n2_ := Aside0.mk (below_step (by repeat (first | (with_reducible first | exact HB.out | apply below_alloc | apply pw_below_drewN | apply below_drew1 | refine below_set ?_ GE540.out | refine below_set ?_ GE541.out) | exact HB.out)) hb); have n3_ := Aside0.mk (hbox); have n4_ := Aside0.mk ((by rw [hg]; exact (below_size (by repeat (first | (with_reducible first | exact HB.out | apply below_alloc | apply pw_below_drewN | apply below_drew1 | refine below_set ?_ GE540.out | refine below_set ?_ GE541.out) | exact HB.out))) : w.heap.size ≤ gb545)); have n5_ := Aside0.mk ((by rw [hg]; exact (below_size (by repeat (first | (with_reducible first | exact HB.out | apply below_alloc | apply pw_below_drewN | apply below_drew1 | refine below_set ?_ GE540.out | refine below_set ?_ GE541.out) | exact HB.out))) : w.heap.size ≤ gb545)); have n6_ := Aside0.mk ((by rw [hg]; exact Nat.ne_of_lt (blk_lt (g := gb540) (o := .cells #[.int .i64 t536, .int .i64 t537] 25 (0, 0)) (by (with_reducible repeat (first | refine blk_drewN ?_ _ | refine blk_drew ?_ | refine blk_alloc ?_ _)); exact BK540.out)) : gb540 ≠ gb545)); have n7_ := Aside0.mk ((by rw [hg]; exact Nat.ne_of_gt (blk_lt (g := gb540) (o := .cells #[.int .i64 t536, .int .i64 t537] 25 (0, 0)) (by (with_reducible repeat (first | refine blk_drewN ?_ _ | refine blk_drew ?_ | refine blk_alloc ?_ _)); exact BK540.out)) : gb545 ≠ gb540)); have n8_ := Aside0.mk ((by rw [hg]; exact Nat.ne_of_lt (blk_lt (g := gb541) (o := .cells #[.int .i64 t538, .int .i64 t539] 25 (0, 0)) (by (with_reducible repeat (first | refine blk_drewN ?_ _ | refine blk_drew ?_ | refine blk_alloc ?_ _)); exact BK541.out)) : gb541 ≠ gb545)); have n9_ := Aside0.mk ((by rw [hg]; exact Nat.ne_of_gt (blk_lt (g := gb541) (o := .cells #[.int .i64 t538, .int .i64 t539] 25 (0, 0)) (by (with_reducible repeat (first | refine blk_drewN ?_ _ | refine blk_drew ?_ | refine blk_alloc ?_ _)); exact BK541.out)) : gb545 ≠ gb541)); clear BK540; clear BK541; clear HB; have BK540 := n0_; have BK541 := n1_; have HB := n2_; have BK545 := n3_; have GW545 := n4_; have GE545 := n5_; have NB540_545 := n6_; have NB545_540 := n7_; have NB541_545 := n8_; have NB545_541 := n9_; clear n0_ n1_ n2_ n3_ n4_ n5_ n6_ n7_ n8_ n9_; clear hb hbox hg; have hnb15 := NB545_540.out; have hnc15 := NB540_545.out; have hnb16 := NB545_541.out; have hnc16 := NB541_545.out; have hcz17_0 : w14.cell? ⟨gb545, 0, none⟩ = some (.int .i64 0) := (blk_cell BK545.out 0).trans rfl; have hcz17_1 : w14.cell? ⟨gb545, 1, none⟩ = some (.int .i64 0) := (blk_cell BK545.out 1).trans rfl; have hfz17_0 := blk_frozen BK545.out 0; have hfz17_1 := blk_frozen BK545.out 1; have hcz18_0 : w14.cell? ⟨gb540, 0, none⟩ = some (.int .i64 t536) := (blk_cell BK540.out 0).trans rfl; have hcz18_1 : w14.cell? ⟨gb540, 1, none⟩ = some (.int .i64 t537) := (blk_cell BK540.out 1).trans rfl; have hfz18_0 := blk_frozen BK540.out 0; have hfz18_1 := blk_frozen BK540.out 1; have hcz19_0 : w14.cell? ⟨gb541, 0, none⟩ = some (.int .i64 t538) := (blk_cell BK541.out 0).trans rfl; have hcz19_1 : w14.cell? ⟨gb541, 1, none⟩ = some (.int .i64 t539) := (blk_cell BK541.out 1).trans rfl; have hfz19_0 := blk_frozen BK541.out 0; have hfz19_1 := blk_frozen BK541.out 1) | ((with_reducible refine gate_callee (f := 29) rfl ?_); refine goesL_ (some 28) rfl rfl Tryd.func29 (by kernel_rfl) rfl #[.agg #[.int .i64 t536, .int .i64 t537], .agg #[.int .i64 t538, .int .i64 t539]] rfl (by (try simp only [List.map_toArray, List.map_cons, List.map_nil]); first | done | rfl | (simp only [List.length_drop, List.length_take]; rfl)) ?_; (with_reducible refine (spec_MulRange.calls k t536 t537 t538 t539 t546 t547 t548 _ A5.out).mono ?_); rintro e w20 ⟨rfl, hb⟩; refine ⟨_, rfl, ?_⟩; have n0_ := Aside0.mk (blk_below (g := gb540) (o := .cells #[.int .i64 t536, .int .i64 t537] 25 (0, 0)) (by (with_reducible repeat (first | refine blk_drewN ?_ _ | refine blk_drew ?_ | refine blk_alloc ?_ _)); refine blk_far ?_ NB540_545.out _; (with_reducible repeat (first | refine blk_drewN ?_ _ | refine blk_drew ?_ | refine blk_alloc ?_ _)); refine blk_far ?_ NB540_545.out _; (with_reducible repeat (first | refine blk_drewN ?_ _ | refine blk_drew ?_ | refine blk_alloc ?_ _)); exact BK540.out) hb); have n1_ := Aside0.mk (blk_below (g := gb541) (o := .cells #[.int .i64 t538, .int .i64 t539] 25 (0, 0)) (by (with_reducible repeat (first | refine blk_drewN ?_ _ | refine blk_drew ?_ | refine blk_alloc ?_ _)); refine blk_far ?_ NB541_545.out _; (with_reducible repeat (first | refine blk_drewN ?_ _ | refine blk_drew ?_ | refine blk_alloc ?_ _)); refine blk_far ?_ NB541_545.out _; (with_reducible repeat (first | refine blk_drewN ?_ _ | refine blk_drew ?_ | refine blk_alloc ?_ _)); exact BK541.out) hb); have n2_ := Aside0.mk (blk_below (g := gb545) (o := .cells #[.int .i64 t542, .int .i64 t543] 25 (0, 0)) (by (with_reducible repeat (first | refine blk_drewN ?_ _ | refine blk_drew ?_ | refine blk_alloc ?_ _)); refine blk_put (cs := #[.int .i64 t542, .int .i64 0]) ?_ 1 _ rfl; (with_reducible repeat (first | refine blk_drewN ?_ _ | refine blk_drew ?_ | refine blk_alloc ?_ _)); refine blk_put (cs := #[.int .i64 0, .int .i64 0]) ?_ 0 _ rfl; (with_reducible repeat (first | refine blk_drewN ?_ _ | refine blk_drew ?_ | refine blk_alloc ?_ _)); exact BK545.out) hb); have n3_ := Aside0.mk (below_step (by repeat (first | (with_reducible first | exact HB.out | apply below_alloc | apply pw_below_drewN | apply below_drew1 | refine below_set ?_ GE540.out | refine below_set ?_ GE541.out | refine below_set ?_ GE545.out) | exact HB.out)) hb); clear BK540; clear BK541; clear BK545; clear HB; have BK540 := n0_; have BK541 := n1_; have BK545 := n2_; have HB := n3_; clear n0_ n1_ n2_ n3_; (try clear hb); (try clear hb2); (try clear hk); (try clear hi)) | ((with_reducible refine gate_dst (N := 7) rfl ?_); refine box_event ?hg (N := 7) ?hd (cs := #[.int .i64 0, .int .i64 0]) (t := 25) ?hr ?_; (case hd => rfl); (case hg => rfl); (case hr => first | (go_simp; done) | (go_simp; rfl)); intro gb549 hg w21 hbox hb; have n0_ := Aside0.mk (blk_below (g := gb540) (o := .cells #[.int .i64 t536, .int .i64 t537] 25 (0, 0)) (by (with_reducible repeat (first | refine blk_drewN ?_ _ | refine blk_drew ?_ | refine blk_alloc ?_ _)); exact BK540.out) hb); have n1_ := Aside0.mk (blk_below (g := gb541) (o := .cells #[.int .i64 t538, .int .i64 t539] 25 (0, 0)) (by (with_reducible repeat (first | refine blk_drewN ?_ _ | refine blk_drew ?_ | refine blk_alloc ?_ _)); exact BK541.out) hb); have n2_ := Aside0.mk (blk_below (g := gb545) (o := .cells #[.int .i64 t542, .int .i64 t543] 25 (0, 0)) (by (with_reducible repeat (first | refine blk_drewN ?_ _ | refine blk_drew ?_ | refine blk_alloc ?_ _)); exact BK545.out) hb); have n3_ := Aside0.mk (below_step (by repeat (first | (with_reducible first | exact HB.out | apply below_alloc | apply pw_below_drewN | apply below_drew1 | refine below_set ?_ GE540.out | refine below_set ?_ GE541.out | refine below_set ?_ GE545.out) | exact HB.out)) hb); have n4_ := Aside0.mk (hbox); have n5_ := Aside0.mk ((by rw [hg]; exact (below_size (by repeat (first | (with_reducible first | exact HB.out | apply below_alloc | apply pw_below_drewN | apply below_drew1 | refine below_set ?_ GE540.out | refine below_set ?_ GE541.out | refine below_set ?_ GE545.out) | exact HB.out))) : w.heap.size ≤ gb549)); have n6_ := Aside0.mk ((by rw [hg]; exact (below_size (by repeat (first | (with_reducible first | exact HB.out | apply below_alloc | apply pw_below_drewN | apply below_drew1 | refine below_set ?_ GE540.out | refine below_set ?_ GE541.out | refine below_set ?_ GE545.out) | exact HB.out))) : w.heap.size ≤ gb549)); have n7_ := Aside0.mk ((by rw [hg]; exact Nat.ne_of_lt (blk_lt (g := gb540) (o := .cells #[.int .i64 t536, .int .i64 t537] 25 (0, 0)) (by (with_reducible repeat (first | refine blk_drewN ?_ _ | refine blk_drew ?_ | refine blk_alloc ?_ _)); exact BK540.out)) : gb540 ≠ gb549)); have n8_ := Aside0.mk ((by rw [hg]; exact Nat.ne_of_gt (blk_lt (g := gb540) (o := .cells #[.int .i64 t536, .int .i64 t537] 25 (0, 0)) (by (with_reducible repeat (first | refine blk_drewN ?_ _ | refine blk_drew ?_ | refine blk_alloc ?_ _)); exact BK540.out)) : gb549 ≠ gb540)); have n9_ := Aside0.mk ((by rw [hg]; exact Nat.ne_of_lt (blk_lt (g := gb541) (o := .cells #[.int .i64 t538, .int .i64 t539] 25 (0, 0)) (by (with_reducible repeat (first | refine blk_drewN ?_ _ | refine blk_drew ?_ | refine blk_alloc ?_ _)); exact BK541.out)) : gb541 ≠ gb549)); have n10_ := Aside0.mk ((by rw [hg]; exact Nat.ne_of_gt (blk_lt (g := gb541) (o := .cells #[.int .i64 t538, .int .i64 t539] 25 (0, 0)) (by (with_reducible repeat (first | refine blk_drewN ?_ _ | refine blk_drew ?_ | refine blk_alloc ?_ _)); exact BK541.out)) : gb549 ≠ gb541)); have n11_ := Aside0.mk ((by rw [hg]; exact Nat.ne_of_lt (blk_lt (g := gb545) (o := .cells #[.int .i64 t542, .int .i64 t543] 25 (0, 0)) (by (with_reducible repeat (first | refine blk_drewN ?_ _ | refine blk_drew ?_ | refine blk_alloc ?_ _)); exact BK545.out)) : gb545 ≠ gb549)); have n12_ := Aside0.mk ((by rw [hg]; exact Nat.ne_of_gt (blk_lt (g := gb545) (o := .cells #[.int .i64 t542, .int .i64 t543] 25 (0, 0)) (by (with_reducible repeat (first | refine blk_drewN ?_ _ | refine blk_drew ?_ | refine blk_alloc ?_ _)); exact BK545.out)) : gb549 ≠ gb545)); clear BK540; clear BK541; clear BK545; clear HB; have BK540 := n0_; have BK541 := n1_; have BK545 := n2_; have HB := n3_; have BK549 := n4_; have GW549 := n5_; have GE549 := n6_; have NB540_549 := n7_; have NB549_540 := n8_; have NB541_549 := n9_; have NB549_541 := n10_; have NB545_549 := n11_; have NB549_545 := n12_; clear n0_ n1_ n2_ n3_ n4_ n5_ n6_ n7_ n8_ n9_ n10_ n11_ n12_; clear hb hbox hg; have hnb22 := NB549_540.out; have hnc22 := NB540_549.out; have hnb23 := NB549_541.out; have hnc23 := NB541_549.out; have hnb24 := NB549_545.out; have hnc24 := NB545_549.out; have hcz25_0 : w21.cell? ⟨gb549, 0, none⟩ = some (.int .i64 0) := (blk_cell BK549.out 0).trans rfl; have hcz25_1 : w21.cell? ⟨gb549, 1, none⟩ = some (.int .i64 0) := (blk_cell BK549.out 1).trans rfl; have hfz25_0 := blk_frozen BK549.out 0; have hfz25_1 := blk_frozen BK549.out 1))
    (try simp only [Act.put, List.setIfInBounds_toArray, List.set_cons_zero, List.set_cons_succ])
    go_cut [42] (fun v42 wc => ∃ (kq : Nat) (x42_5 : Bool), v42 = .bool x42_5 ∧ Aside0 (laws_FnMulRangeInside.j0 kq t544 t548 x42_5 t536 t537 t538 t539 t542 t543 t546 t547 = some r) ∧ Aside0 (kq ≤ k) ∧ Aside0 (wc.heap[gb540]? = some (.cells #[.int .i64 t536, .int .i64 t537] 25 (0, 0))) ∧ Aside0 (wc.heap[gb541]? = some (.cells #[.int .i64 t538, .int .i64 t539] 25 (0, 0))) ∧ Aside0 (wc.heap[gb545]? = some (.cells #[.int .i64 t542, .int .i64 t543] 25 (0, 0))) ∧ Aside0 (wc.heap[gb549]? = some (.cells #[.int .i64 t546, .int .i64 t547] 25 (0, 0))) ∧ Aside0 (Below w.heap.size w wc))
    case first =>
      have H := HC6.out
      clear HC6
      by_cases c26 : (!(t542 == t546) || (!(t543 == t547))) = true
      · rw [if_pos c26] at H
        have c26b0 : (!(t542 == t546) || (!(t543 == t547))) = true := c26
        clear c26
        (first | rw [c26b0] | (simp only [i64_w, i32_w]; rw [c26b0]) | skip)
        have H' := Aside0.mk H
        clear H
        have hnb27 := NB545_540.out
        have hnc27 := NB540_545.out
        have hnb28 := NB545_541.out
        have hnc28 := NB541_545.out
        have hnb29 := NB545_549.out
        have hnc29 := NB549_545.out
        have hcz30_0 : w21.cell? ⟨gb545, 0, none⟩ = some (.int .i64 t542) := (blk_cell BK545.out 0).trans rfl
        have hcz30_1 : w21.cell? ⟨gb545, 1, none⟩ = some (.int .i64 t543) := (blk_cell BK545.out 1).trans rfl
        have hfz30_0 := blk_frozen BK545.out 0
        have hfz30_1 := blk_frozen BK545.out 1
        have hnb31 := NB549_540.out
        have hnc31 := NB540_549.out
        have hnb32 := NB549_541.out
        have hnc32 := NB541_549.out
        have hcz33_0 : w21.cell? ⟨gb549, 0, none⟩ = some (.int .i64 0) := (blk_cell BK549.out 0).trans rfl
        have hcz33_1 : w21.cell? ⟨gb549, 1, none⟩ = some (.int .i64 0) := (blk_cell BK549.out 1).trans rfl
        have hfz33_0 := blk_frozen BK549.out 0
        have hfz33_1 := blk_frozen BK549.out 1
        go_wp2
        go_meet
        case rel => exact ⟨_, (true), (by first | rfl | (simp; done) | (simp [*]; done)), H', ⟨by first | omega | exact Nat.le_refl _⟩, ⟨by (with_reducible repeat (first | refine blk_drewN ?_ _ | refine blk_drew ?_ | refine blk_alloc ?_ _)); refine blk_far ?_ NB540_549.out _; (with_reducible repeat (first | refine blk_drewN ?_ _ | refine blk_drew ?_ | refine blk_alloc ?_ _)); refine blk_far ?_ NB540_549.out _; (with_reducible repeat (first | refine blk_drewN ?_ _ | refine blk_drew ?_ | refine blk_alloc ?_ _)); exact BK540.out⟩, ⟨by (with_reducible repeat (first | refine blk_drewN ?_ _ | refine blk_drew ?_ | refine blk_alloc ?_ _)); refine blk_far ?_ NB541_549.out _; (with_reducible repeat (first | refine blk_drewN ?_ _ | refine blk_drew ?_ | refine blk_alloc ?_ _)); refine blk_far ?_ NB541_549.out _; (with_reducible repeat (first | refine blk_drewN ?_ _ | refine blk_drew ?_ | refine blk_alloc ?_ _)); exact BK541.out⟩, ⟨by (with_reducible repeat (first | refine blk_drewN ?_ _ | refine blk_drew ?_ | refine blk_alloc ?_ _)); refine blk_far ?_ NB545_549.out _; (with_reducible repeat (first | refine blk_drewN ?_ _ | refine blk_drew ?_ | refine blk_alloc ?_ _)); refine blk_far ?_ NB545_549.out _; (with_reducible repeat (first | refine blk_drewN ?_ _ | refine blk_drew ?_ | refine blk_alloc ?_ _)); exact BK545.out⟩, ⟨by (with_reducible repeat (first | refine blk_drewN ?_ _ | refine blk_drew ?_ | refine blk_alloc ?_ _)); refine blk_put (cs := #[.int .i64 t546, .int .i64 0]) ?_ 1 _ rfl; (with_reducible repeat (first | refine blk_drewN ?_ _ | refine blk_drew ?_ | refine blk_alloc ?_ _)); refine blk_put (cs := #[.int .i64 0, .int .i64 0]) ?_ 0 _ rfl; (with_reducible repeat (first | refine blk_drewN ?_ _ | refine blk_drew ?_ | refine blk_alloc ?_ _)); exact BK549.out⟩, ⟨by repeat (first | (with_reducible first | exact HB.out | apply below_alloc | apply pw_below_drewN | apply below_drew1 | refine below_set ?_ GE540.out | refine below_set ?_ GE541.out | refine below_set ?_ GE545.out | refine below_set ?_ GE549.out) | exact HB.out)⟩⟩
      · rw [if_neg c26] at H
        have c26b0 : (!(t542 == t546) || (!(t543 == t547))) = false := by simpa using c26
        clear c26
        (first | rw [c26b0] | (simp only [i64_w, i32_w]; rw [c26b0]) | skip)
        by_cases c34 : (t544 != t548) = true
        · rw [if_pos c34] at H
          have c34b0 : (t544 != t548) = true := c34
          (try (have c34b1 : decide (t544 = t548) = false := by simpa using c34))
          (try (have c34b2 : (t544 == t548) = false := by simpa using c34))
          (try (have c34b3 : ¬ (t544 = t548) := by simpa using c34))
          clear c34
          have H' := Aside0.mk H
          clear H
          have hnb35 := NB545_540.out
          have hnc35 := NB540_545.out
          have hnb36 := NB545_541.out
          have hnc36 := NB541_545.out
          have hnb37 := NB545_549.out
          have hnc37 := NB549_545.out
          have hcz38_0 : w21.cell? ⟨gb545, 0, none⟩ = some (.int .i64 t542) := (blk_cell BK545.out 0).trans rfl
          have hcz38_1 : w21.cell? ⟨gb545, 1, none⟩ = some (.int .i64 t543) := (blk_cell BK545.out 1).trans rfl
          have hfz38_0 := blk_frozen BK545.out 0
          have hfz38_1 := blk_frozen BK545.out 1
          have hnb39 := NB549_540.out
          have hnc39 := NB540_549.out
          have hnb40 := NB549_541.out
          have hnc40 := NB541_549.out
          have hcz41_0 : w21.cell? ⟨gb549, 0, none⟩ = some (.int .i64 0) := (blk_cell BK549.out 0).trans rfl
          have hcz41_1 : w21.cell? ⟨gb549, 1, none⟩ = some (.int .i64 0) := (blk_cell BK549.out 1).trans rfl
          have hfz41_0 := blk_frozen BK549.out 0
          have hfz41_1 := blk_frozen BK549.out 1
          go_wp2
          go_meet
          case rel => exact ⟨_, (true), (by first | rfl | (simp; done) | (simp [*]; done)), H', ⟨by first | omega | exact Nat.le_refl _⟩, ⟨by (with_reducible repeat (first | refine blk_drewN ?_ _ | refine blk_drew ?_ | refine blk_alloc ?_ _)); refine blk_far ?_ NB540_549.out _; (with_reducible repeat (first | refine blk_drewN ?_ _ | refine blk_drew ?_ | refine blk_alloc ?_ _)); refine blk_far ?_ NB540_549.out _; (with_reducible repeat (first | refine blk_drewN ?_ _ | refine blk_drew ?_ | refine blk_alloc ?_ _)); exact BK540.out⟩, ⟨by (with_reducible repeat (first | refine blk_drewN ?_ _ | refine blk_drew ?_ | refine blk_alloc ?_ _)); refine blk_far ?_ NB541_549.out _; (with_reducible repeat (first | refine blk_drewN ?_ _ | refine blk_drew ?_ | refine blk_alloc ?_ _)); refine blk_far ?_ NB541_549.out _; (with_reducible repeat (first | refine blk_drewN ?_ _ | refine blk_drew ?_ | refine blk_alloc ?_ _)); exact BK541.out⟩, ⟨by (with_reducible repeat (first | refine blk_drewN ?_ _ | refine blk_drew ?_ | refine blk_alloc ?_ _)); refine blk_far ?_ NB545_549.out _; (with_reducible repeat (first | refine blk_drewN ?_ _ | refine blk_drew ?_ | refine blk_alloc ?_ _)); refine blk_far ?_ NB545_549.out _; (with_reducible repeat (first | refine blk_drewN ?_ _ | refine blk_drew ?_ | refine blk_alloc ?_ _)); exact BK545.out⟩, ⟨by (with_reducible repeat (first | refine blk_drewN ?_ _ | refine blk_drew ?_ | refine blk_alloc ?_ _)); refine blk_put (cs := #[.int .i64 t546, .int .i64 0]) ?_ 1 _ rfl; (with_reducible repeat (first | refine blk_drewN ?_ _ | refine blk_drew ?_ | refine blk_alloc ?_ _)); refine blk_put (cs := #[.int .i64 0, .int .i64 0]) ?_ 0 _ rfl; (with_reducible repeat (first | refine blk_drewN ?_ _ | refine blk_drew ?_ | refine blk_alloc ?_ _)); exact BK549.out⟩, ⟨by repeat (first | (with_reducible first | exact HB.out | apply below_alloc | apply pw_below_drewN | apply below_drew1 | refine below_set ?_ GE540.out | refine below_set ?_ GE541.out | refine below_set ?_ GE545.out | refine below_set ?_ GE549.out) | exact HB.out)⟩⟩
        · rw [if_neg c34] at H
          have c34b0 : (t544 != t548) = false := by simpa using c34
          (try (have c34b1 : decide (t544 = t548) = true := by simpa using c34))
          (try (have c34b2 : (t544 == t548) = true := by simpa using c34))
          clear c34
          have H' := Aside0.mk H
          clear H
          have hnb42 := NB545_540.out
          have hnc42 := NB540_545.out
          have hnb43 := NB545_541.out
          have hnc43 := NB541_545.out
          have hnb44 := NB545_549.out
          have hnc44 := NB549_545.out
          have hcz45_0 : w21.cell? ⟨gb545, 0, none⟩ = some (.int .i64 t542) := (blk_cell BK545.out 0).trans rfl
          have hcz45_1 : w21.cell? ⟨gb545, 1, none⟩ = some (.int .i64 t543) := (blk_cell BK545.out 1).trans rfl
          have hfz45_0 := blk_frozen BK545.out 0
          have hfz45_1 := blk_frozen BK545.out 1
          have hnb46 := NB549_540.out
          have hnc46 := NB540_549.out
          have hnb47 := NB549_541.out
          have hnc47 := NB541_549.out
          have hcz48_0 : w21.cell? ⟨gb549, 0, none⟩ = some (.int .i64 0) := (blk_cell BK549.out 0).trans rfl
          have hcz48_1 : w21.cell? ⟨gb549, 1, none⟩ = some (.int .i64 0) := (blk_cell BK549.out 1).trans rfl
          have hfz48_0 := blk_frozen BK549.out 0
          have hfz48_1 := blk_frozen BK549.out 1
          go_wp2
          go_meet
          case rel => exact ⟨_, (!t544), (by first | rfl | (simp; done) | (simp [*]; done)), H', ⟨by first | omega | exact Nat.le_refl _⟩, ⟨by (with_reducible repeat (first | refine blk_drewN ?_ _ | refine blk_drew ?_ | refine blk_alloc ?_ _)); refine blk_far ?_ NB540_549.out _; (with_reducible repeat (first | refine blk_drewN ?_ _ | refine blk_drew ?_ | refine blk_alloc ?_ _)); refine blk_far ?_ NB540_549.out _; (with_reducible repeat (first | refine blk_drewN ?_ _ | refine blk_drew ?_ | refine blk_alloc ?_ _)); exact BK540.out⟩, ⟨by (with_reducible repeat (first | refine blk_drewN ?_ _ | refine blk_drew ?_ | refine blk_alloc ?_ _)); refine blk_far ?_ NB541_549.out _; (with_reducible repeat (first | refine blk_drewN ?_ _ | refine blk_drew ?_ | refine blk_alloc ?_ _)); refine blk_far ?_ NB541_549.out _; (with_reducible repeat (first | refine blk_drewN ?_ _ | refine blk_drew ?_ | refine blk_alloc ?_ _)); exact BK541.out⟩, ⟨by (with_reducible repeat (first | refine blk_drewN ?_ _ | refine blk_drew ?_ | refine blk_alloc ?_ _)); refine blk_far ?_ NB545_549.out _; (with_reducible repeat (first | refine blk_drewN ?_ _ | refine blk_drew ?_ | refine blk_alloc ?_ _)); refine blk_far ?_ NB545_549.out _; (with_reducible repeat (first | refine blk_drewN ?_ _ | refine blk_drew ?_ | refine blk_alloc ?_ _)); exact BK545.out⟩, ⟨by (with_reducible repeat (first | refine blk_drewN ?_ _ | refine blk_drew ?_ | refine blk_alloc ?_ _)); refine blk_put (cs := #[.int .i64 t546, .int .i64 0]) ?_ 1 _ rfl; (with_reducible repeat (first | refine blk_drewN ?_ _ | refine blk_drew ?_ | refine blk_alloc ?_ _)); refine blk_put (cs := #[.int .i64 0, .int .i64 0]) ?_ 0 _ rfl; (with_reducible repeat (first | refine blk_drewN ?_ _ | refine blk_drew ?_ | refine blk_alloc ?_ _)); exact BK549.out⟩, ⟨by repeat (first | (with_reducible first | exact HB.out | apply below_alloc | apply pw_below_drewN | apply below_drew1 | refine below_set ?_ GE540.out | refine below_set ?_ GE541.out | refine below_set ?_ GE545.out | refine below_set ?_ GE549.out) | exact HB.out)⟩⟩
    case rest =>
      clear HC6
      try clear c1
      try clear c2
      try clear c2b0
      try clear c2b1
      try clear p2
      try clear c3
      try clear c4
      try clear c10
      try clear c14
      try clear c15
      try clear c16
      try clear c22
      try clear c23
      try clear c24
      try clear c26
      try clear c26b0
      try clear c27
      try clear c28
      try clear c29
      try clear c30
      try clear c31
      try clear c32
      try clear c34
      try clear c34b0
      try clear c34b1
      try clear c34b2
      try clear c35
      try clear c36
      try clear c37
      try clear c39
      try clear c40
      try clear c42
      try clear c43
      try clear c44
      try clear c46
      try clear c47
      try clear hcz11_0
      try clear hcz11_1
      try clear hcz12_0
      try clear hcz12_1
      try clear hcz17_0
      try clear hcz17_1
      try clear hcz18_0
      try clear hcz18_1
      try clear hcz19_0
      try clear hcz19_1
      try clear hcz25_0
      try clear hcz25_1
      try clear hcz30_0
      try clear hcz30_1
      try clear hcz33_0
      try clear hcz33_1
      try clear hcz38_0
      try clear hcz38_1
      try clear hcz41_0
      try clear hcz41_1
      try clear hcz45_0
      try clear hcz45_1
      try clear hcz48_0
      try clear hcz48_1
      try clear hfz11_0
      try clear hfz11_1
      try clear hfz12_0
      try clear hfz12_1
      try clear hfz17_0
      try clear hfz17_1
      try clear hfz18_0
      try clear hfz18_1
      try clear hfz19_0
      try clear hfz19_1
      try clear hfz25_0
      try clear hfz25_1
      try clear hfz30_0
      try clear hfz30_1
      try clear hfz33_0
      try clear hfz33_1
      try clear hfz38_0
      try clear hfz38_1
      try clear hfz41_0
      try clear hfz41_1
      try clear hfz45_0
      try clear hfz45_1
      try clear hfz48_0
      try clear hfz48_1
      obtain ⟨kq, x42_5, rfl, HA, HJ5, BK540, BK541, BK545, BK549, HB⟩ := hcut
      cases kq with
      | zero => exact absurd HA.out (by simp [laws_FnMulRangeInside.j0])
      | succ kj5 =>
        have H := HA.out
        clear HA
        simp only [laws_FnMulRangeInside.j0] at H
        by_cases c49 : x42_5 = true
        · subst c49
          have H1 : (if (t542 == t546 && (t543 == t547)) = true then (some (t544 == t548)) else (some false)) = some r := by rw [if_pos rfl] at H; exact H
          clear H
          have H := H1
          clear H1
          by_cases c50 : (t542 == t546 && (t543 == t547)) = true
          · rw [if_pos c50] at H
            have c50b0 : (t542 == t546 && (t543 == t547)) = true := c50
            (try (have c50b1 : decide (t542 = t546 && (t543 == t547)) = true := by simpa using c50))
            (try (have c50b2 : (t542 == t546 && (t543 == t547)) = true := by simpa using c50))
            clear c50
            obtain rfl := Option.some.inj H
            have hnb51 := NB545_540.out
            have hnc51 := NB540_545.out
            have hnb52 := NB545_541.out
            have hnc52 := NB541_545.out
            have hnb53 := NB545_549.out
            have hnc53 := NB549_545.out
            have hcz54_0 : wc.cell? ⟨gb545, 0, none⟩ = some (.int .i64 t542) := (blk_cell BK545.out 0).trans rfl
            have hcz54_1 : wc.cell? ⟨gb545, 1, none⟩ = some (.int .i64 t543) := (blk_cell BK545.out 1).trans rfl
            have hfz54_0 := blk_frozen BK545.out 0
            have hfz54_1 := blk_frozen BK545.out 1
            have hnb55 := NB549_540.out
            have hnc55 := NB540_549.out
            have hnb56 := NB549_541.out
            have hnc56 := NB541_549.out
            have hcz57_0 : wc.cell? ⟨gb549, 0, none⟩ = some (.int .i64 t546) := (blk_cell BK549.out 0).trans rfl
            have hcz57_1 : wc.cell? ⟨gb549, 1, none⟩ = some (.int .i64 t547) := (blk_cell BK549.out 1).trans rfl
            have hfz57_0 := blk_frozen BK549.out 0
            have hfz57_1 := blk_frozen BK549.out 1
            go_wp2
            go_ret
            exact ⟨by first | rfl | (simp [errW_none, errW_some] <;> rfl) | (simp [*, errW_none, errW_some] <;> rfl), by repeat (first | (with_reducible first | exact HB.out | apply below_alloc | apply pw_below_drewN | apply below_drew1 | refine below_set ?_ GE540.out | refine below_set ?_ GE541.out | refine below_set ?_ GE545.out | refine below_set ?_ GE549.out) | exact HB.out)⟩
          · rw [if_neg c50] at H
            have c50b0 : (t542 == t546 && (t543 == t547)) = false := by simpa using c50
            (try (have c50b1 : decide (t542 = t546 && (t543 == t547)) = false := by simpa using c50))
            (try (have c50b2 : (t542 == t546 && (t543 == t547)) = false := by simpa using c50))
            (try (have c50b3 : ¬ (t542 = t546 && (t543 == t547)) := by simpa using c50))
            clear c50
            obtain rfl := Option.some.inj H
            have hnb58 := NB545_540.out
            have hnc58 := NB540_545.out
            have hnb59 := NB545_541.out
            have hnc59 := NB541_545.out
            have hnb60 := NB545_549.out
            have hnc60 := NB549_545.out
            have hcz61_0 : wc.cell? ⟨gb545, 0, none⟩ = some (.int .i64 t542) := (blk_cell BK545.out 0).trans rfl
            have hcz61_1 : wc.cell? ⟨gb545, 1, none⟩ = some (.int .i64 t543) := (blk_cell BK545.out 1).trans rfl
            have hfz61_0 := blk_frozen BK545.out 0
            have hfz61_1 := blk_frozen BK545.out 1
            have hnb62 := NB549_540.out
            have hnc62 := NB540_549.out
            have hnb63 := NB549_541.out
            have hnc63 := NB541_549.out
            have hcz64_0 : wc.cell? ⟨gb549, 0, none⟩ = some (.int .i64 t546) := (blk_cell BK549.out 0).trans rfl
            have hcz64_1 : wc.cell? ⟨gb549, 1, none⟩ = some (.int .i64 t547) := (blk_cell BK549.out 1).trans rfl
            have hfz64_0 := blk_frozen BK549.out 0
            have hfz64_1 := blk_frozen BK549.out 1
            go_wp2
            go_ret
            exact ⟨by first | rfl | (simp [errW_none, errW_some] <;> rfl) | (simp [*, errW_none, errW_some] <;> rfl), by repeat (first | (with_reducible first | exact HB.out | apply below_alloc | apply pw_below_drewN | apply below_drew1 | refine below_set ?_ GE540.out | refine below_set ?_ GE541.out | refine below_set ?_ GE545.out | refine below_set ?_ GE549.out) | exact HB.out)⟩
        · replace c49 := Bool.eq_false_iff.mpr c49
          subst c49
          have H1 : ((impl_MulRange.f t536 t536 t538 t539).bind fun bt550 => (if bt550.2.2 = true then ((laws_within.f bt550.1 bt550.2.1 t542 t543).bind fun t554 => (some t554)) else (some false))) = some r := by rw [if_neg (show ¬ (false = true) by decide)] at H; exact H
          clear H
          have H := H1
          clear H1
          replace H := Option.bind_eq_some_iff.mp H
          obtain ⟨⟨t550, t551, t552⟩, A650, H⟩ := H
          replace H : (if t552 = true then ((laws_within.f t550 t551 t542 t543).bind fun t554 => (some t554)) else (some false)) = some r := H
          have A65 := Aside0.mk A650
          clear A650
          by_cases c66 : t552 = true
          · subst c66
            have H1 : ((laws_within.f t550 t551 t542 t543).bind fun t554 => (some t554)) = some r := by rw [if_pos rfl] at H; exact H
            clear H
            have H := H1
            clear H1
            replace H := Option.bind_eq_some_iff.mp H
            obtain ⟨t554, A670, H⟩ := H
            replace H : (some t554) = some r := H
            have A67 := Aside0.mk A670
            clear A670
            obtain rfl := Option.some.inj H
            have hnb68 := NB540_541.out
            have hnc68 := NB541_540.out
            have hnb69 := NB540_545.out
            have hnc69 := NB545_540.out
            have hnb70 := NB540_549.out
            have hnc70 := NB549_540.out
            have hcz71_0 : wc.cell? ⟨gb540, 0, none⟩ = some (.int .i64 t536) := (blk_cell BK540.out 0).trans rfl
            have hcz71_1 : wc.cell? ⟨gb540, 1, none⟩ = some (.int .i64 t537) := (blk_cell BK540.out 1).trans rfl
            have hfz71_0 := blk_frozen BK540.out 0
            have hfz71_1 := blk_frozen BK540.out 1
            have hnb72 := NB541_545.out
            have hnc72 := NB545_541.out
            have hnb73 := NB541_549.out
            have hnc73 := NB549_541.out
            have hcz74_0 : wc.cell? ⟨gb541, 0, none⟩ = some (.int .i64 t538) := (blk_cell BK541.out 0).trans rfl
            have hcz74_1 : wc.cell? ⟨gb541, 1, none⟩ = some (.int .i64 t539) := (blk_cell BK541.out 1).trans rfl
            have hfz74_0 := blk_frozen BK541.out 0
            have hfz74_1 := blk_frozen BK541.out 1
            go_wp2_with (first | ((with_reducible refine gate_callee (f := 30) rfl ?_); refine goesL_ (some 58) rfl rfl Tryd.func30 (by kernel_rfl) rfl #[.agg #[.int .i64 t536, .int .i64 t536], .agg #[.int .i64 t538, .int .i64 t539]] rfl (by (try simp only [List.map_toArray, List.map_cons, List.map_nil]); first | done | rfl | (simp only [List.length_drop, List.length_take]; rfl)) ?_; (with_reducible refine (impl_MulRange.calls t536 t536 t538 t539 t550 t551 true _ ?side1 A65.out).mono ?_); (case side1 => first | exact HTab.out | exact Tab.below HTab.out (by repeat (first | (with_reducible first | exact HB.out | apply below_alloc | apply pw_below_drewN | apply below_drew1 | refine below_set ?_ GE540.out | refine below_set ?_ GE541.out | refine below_set ?_ GE545.out | refine below_set ?_ GE549.out) | exact HB.out))); rintro e w75 ⟨rfl, hb⟩; refine ⟨_, rfl, ?_⟩; have n0_ := Aside0.mk (blk_below (g := gb540) (o := .cells #[.int .i64 t536, .int .i64 t537] 25 (0, 0)) (by (with_reducible repeat (first | refine blk_drewN ?_ _ | refine blk_drew ?_ | refine blk_alloc ?_ _)); exact BK540.out) hb); have n1_ := Aside0.mk (blk_below (g := gb541) (o := .cells #[.int .i64 t538, .int .i64 t539] 25 (0, 0)) (by (with_reducible repeat (first | refine blk_drewN ?_ _ | refine blk_drew ?_ | refine blk_alloc ?_ _)); exact BK541.out) hb); have n2_ := Aside0.mk (blk_below (g := gb545) (o := .cells #[.int .i64 t542, .int .i64 t543] 25 (0, 0)) (by (with_reducible repeat (first | refine blk_drewN ?_ _ | refine blk_drew ?_ | refine blk_alloc ?_ _)); exact BK545.out) hb); have n3_ := Aside0.mk (blk_below (g := gb549) (o := .cells #[.int .i64 t546, .int .i64 t547] 25 (0, 0)) (by (with_reducible repeat (first | refine blk_drewN ?_ _ | refine blk_drew ?_ | refine blk_alloc ?_ _)); exact BK549.out) hb); have n4_ := Aside0.mk (below_step (by repeat (first | (with_reducible first | exact HB.out | apply below_alloc | apply pw_below_drewN | apply below_drew1 | refine below_set ?_ GE540.out | refine below_set ?_ GE541.out | refine below_set ?_ GE545.out | refine below_set ?_ GE549.out) | exact HB.out)) hb); clear BK540; clear BK541; clear BK545; clear BK549; clear HB; have BK540 := n0_; have BK541 := n1_; have BK545 := n2_; have BK549 := n3_; have HB := n4_; clear n0_ n1_ n2_ n3_ n4_; (try clear hb); (try clear hb2); (try clear hk); (try clear hi)) | ((with_reducible refine gate_dst (N := 9) rfl ?_); refine box_event ?hg (N := 9) ?hd (cs := #[.int .i64 0, .int .i64 0]) (t := 25) ?hr ?_; (case hd => rfl); (case hg => rfl); (case hr => first | (go_simp; done) | (go_simp; rfl)); intro gb553 hg w76 hbox hb; have n0_ := Aside0.mk (blk_below (g := gb540) (o := .cells #[.int .i64 t536, .int .i64 t537] 25 (0, 0)) (by (with_reducible repeat (first | refine blk_drewN ?_ _ | refine blk_drew ?_ | refine blk_alloc ?_ _)); exact BK540.out) hb); have n1_ := Aside0.mk (blk_below (g := gb541) (o := .cells #[.int .i64 t538, .int .i64 t539] 25 (0, 0)) (by (with_reducible repeat (first | refine blk_drewN ?_ _ | refine blk_drew ?_ | refine blk_alloc ?_ _)); exact BK541.out) hb); have n2_ := Aside0.mk (blk_below (g := gb545) (o := .cells #[.int .i64 t542, .int .i64 t543] 25 (0, 0)) (by (with_reducible repeat (first | refine blk_drewN ?_ _ | refine blk_drew ?_ | refine blk_alloc ?_ _)); exact BK545.out) hb); have n3_ := Aside0.mk (blk_below (g := gb549) (o := .cells #[.int .i64 t546, .int .i64 t547] 25 (0, 0)) (by (with_reducible repeat (first | refine blk_drewN ?_ _ | refine blk_drew ?_ | refine blk_alloc ?_ _)); exact BK549.out) hb); have n4_ := Aside0.mk (below_step (by repeat (first | (with_reducible first | exact HB.out | apply below_alloc | apply pw_below_drewN | apply below_drew1 | refine below_set ?_ GE540.out | refine below_set ?_ GE541.out | refine below_set ?_ GE545.out | refine below_set ?_ GE549.out) | exact HB.out)) hb); have n5_ := Aside0.mk (hbox); have n6_ := Aside0.mk ((by rw [hg]; exact (below_size (by repeat (first | (with_reducible first | exact HB.out | apply below_alloc | apply pw_below_drewN | apply below_drew1 | refine below_set ?_ GE540.out | refine below_set ?_ GE541.out | refine below_set ?_ GE545.out | refine below_set ?_ GE549.out) | exact HB.out))) : w.heap.size ≤ gb553)); have n7_ := Aside0.mk ((by rw [hg]; exact (below_size (by repeat (first | (with_reducible first | exact HB.out | apply below_alloc | apply pw_below_drewN | apply below_drew1 | refine below_set ?_ GE540.out | refine below_set ?_ GE541.out | refine below_set ?_ GE545.out | refine below_set ?_ GE549.out) | exact HB.out))) : w.heap.size ≤ gb553)); have n8_ := Aside0.mk ((by rw [hg]; exact Nat.ne_of_lt (blk_lt (g := gb540) (o := .cells #[.int .i64 t536, .int .i64 t537] 25 (0, 0)) (by (with_reducible repeat (first | refine blk_drewN ?_ _ | refine blk_drew ?_ | refine blk_alloc ?_ _)); exact BK540.out)) : gb540 ≠ gb553)); have n9_ := Aside0.mk ((by rw [hg]; exact Nat.ne_of_gt (blk_lt (g := gb540) (o := .cells #[.int .i64 t536, .int .i64 t537] 25 (0, 0)) (by (with_reducible repeat (first | refine blk_drewN ?_ _ | refine blk_drew ?_ | refine blk_alloc ?_ _)); exact BK540.out)) : gb553 ≠ gb540)); have n10_ := Aside0.mk ((by rw [hg]; exact Nat.ne_of_lt (blk_lt (g := gb541) (o := .cells #[.int .i64 t538, .int .i64 t539] 25 (0, 0)) (by (with_reducible repeat (first | refine blk_drewN ?_ _ | refine blk_drew ?_ | refine blk_alloc ?_ _)); exact BK541.out)) : gb541 ≠ gb553)); have n11_ := Aside0.mk ((by rw [hg]; exact Nat.ne_of_gt (blk_lt (g := gb541) (o := .cells #[.int .i64 t538, .int .i64 t539] 25 (0, 0)) (by (with_reducible repeat (first | refine blk_drewN ?_ _ | refine blk_drew ?_ | refine blk_alloc ?_ _)); exact BK541.out)) : gb553 ≠ gb541)); have n12_ := Aside0.mk ((by rw [hg]; exact Nat.ne_of_lt (blk_lt (g := gb545) (o := .cells #[.int .i64 t542, .int .i64 t543] 25 (0, 0)) (by (with_reducible repeat (first | refine blk_drewN ?_ _ | refine blk_drew ?_ | refine blk_alloc ?_ _)); exact BK545.out)) : gb545 ≠ gb553)); have n13_ := Aside0.mk ((by rw [hg]; exact Nat.ne_of_gt (blk_lt (g := gb545) (o := .cells #[.int .i64 t542, .int .i64 t543] 25 (0, 0)) (by (with_reducible repeat (first | refine blk_drewN ?_ _ | refine blk_drew ?_ | refine blk_alloc ?_ _)); exact BK545.out)) : gb553 ≠ gb545)); have n14_ := Aside0.mk ((by rw [hg]; exact Nat.ne_of_lt (blk_lt (g := gb549) (o := .cells #[.int .i64 t546, .int .i64 t547] 25 (0, 0)) (by (with_reducible repeat (first | refine blk_drewN ?_ _ | refine blk_drew ?_ | refine blk_alloc ?_ _)); exact BK549.out)) : gb549 ≠ gb553)); have n15_ := Aside0.mk ((by rw [hg]; exact Nat.ne_of_gt (blk_lt (g := gb549) (o := .cells #[.int .i64 t546, .int .i64 t547] 25 (0, 0)) (by (with_reducible repeat (first | refine blk_drewN ?_ _ | refine blk_drew ?_ | refine blk_alloc ?_ _)); exact BK549.out)) : gb553 ≠ gb549)); clear BK540; clear BK541; clear BK545; clear BK549; clear HB; have BK540 := n0_; have BK541 := n1_; have BK545 := n2_; have BK549 := n3_; have HB := n4_; have BK553 := n5_; have GW553 := n6_; have GE553 := n7_; have NB540_553 := n8_; have NB553_540 := n9_; have NB541_553 := n10_; have NB553_541 := n11_; have NB545_553 := n12_; have NB553_545 := n13_; have NB549_553 := n14_; have NB553_549 := n15_; clear n0_ n1_ n2_ n3_ n4_ n5_ n6_ n7_ n8_ n9_ n10_ n11_ n12_ n13_ n14_ n15_; clear hb hbox hg; have hnb77 := NB553_540.out; have hnc77 := NB540_553.out; have hnb78 := NB553_541.out; have hnc78 := NB541_553.out; have hnb79 := NB553_545.out; have hnc79 := NB545_553.out; have hnb80 := NB553_549.out; have hnc80 := NB549_553.out; have hcz81_0 : w76.cell? ⟨gb553, 0, none⟩ = some (.int .i64 0) := (blk_cell BK553.out 0).trans rfl; have hcz81_1 : w76.cell? ⟨gb553, 1, none⟩ = some (.int .i64 0) := (blk_cell BK553.out 1).trans rfl; have hfz81_0 := blk_frozen BK553.out 0; have hfz81_1 := blk_frozen BK553.out 1; have hnb82 := NB545_549.out; have hnc82 := NB549_545.out; have hcz83_0 : w76.cell? ⟨gb545, 0, none⟩ = some (.int .i64 t542) := (blk_cell BK545.out 0).trans rfl; have hcz83_1 : w76.cell? ⟨gb545, 1, none⟩ = some (.int .i64 t543) := (blk_cell BK545.out 1).trans rfl; have hfz83_0 := blk_frozen BK545.out 0; have hfz83_1 := blk_frozen BK545.out 1) | (go_at_call 33; (with_reducible refine (laws_within.calls t550 t551 t542 t543 t554 _ A67.out).mono ?_); rintro e w84 ⟨rfl, hb⟩; have n0_ := Aside0.mk (blk_below (g := gb540) (o := .cells #[.int .i64 t536, .int .i64 t537] 25 (0, 0)) (by (with_reducible repeat (first | refine blk_drewN ?_ _ | refine blk_drew ?_ | refine blk_alloc ?_ _)); refine blk_far ?_ NB540_553.out _; (with_reducible repeat (first | refine blk_drewN ?_ _ | refine blk_drew ?_ | refine blk_alloc ?_ _)); refine blk_far ?_ NB540_553.out _; (with_reducible repeat (first | refine blk_drewN ?_ _ | refine blk_drew ?_ | refine blk_alloc ?_ _)); exact BK540.out) hb); have n1_ := Aside0.mk (blk_below (g := gb541) (o := .cells #[.int .i64 t538, .int .i64 t539] 25 (0, 0)) (by (with_reducible repeat (first | refine blk_drewN ?_ _ | refine blk_drew ?_ | refine blk_alloc ?_ _)); refine blk_far ?_ NB541_553.out _; (with_reducible repeat (first | refine blk_drewN ?_ _ | refine blk_drew ?_ | refine blk_alloc ?_ _)); refine blk_far ?_ NB541_553.out _; (with_reducible repeat (first | refine blk_drewN ?_ _ | refine blk_drew ?_ | refine blk_alloc ?_ _)); exact BK541.out) hb); have n2_ := Aside0.mk (blk_below (g := gb545) (o := .cells #[.int .i64 t542, .int .i64 t543] 25 (0, 0)) (by (with_reducible repeat (first | refine blk_drewN ?_ _ | refine blk_drew ?_ | refine blk_alloc ?_ _)); refine blk_far ?_ NB545_553.out _; (with_reducible repeat (first | refine blk_drewN ?_ _ | refine blk_drew ?_ | refine blk_alloc ?_ _)); refine blk_far ?_ NB545_553.out _; (with_reducible repeat (first | refine blk_drewN ?_ _ | refine blk_drew ?_ | refine blk_alloc ?_ _)); exact BK545.out) hb); have n3_ := Aside0.mk (blk_below (g := gb549) (o := .cells #[.int .i64 t546, .int .i64 t547] 25 (0, 0)) (by (with_reducible repeat (first | refine blk_drewN ?_ _ | refine blk_drew ?_ | refine blk_alloc ?_ _)); refine blk_far ?_ NB549_553.out _; (with_reducible repeat (first | refine blk_drewN ?_ _ | refine blk_drew ?_ | refine blk_alloc ?_ _)); refine blk_far ?_ NB549_553.out _; (with_reducible repeat (first | refine blk_drewN ?_ _ | refine blk_drew ?_ | refine blk_alloc ?_ _)); exact BK549.out) hb); have n4_ := Aside0.mk (blk_below (g := gb553) (o := .cells #[.int .i64 t550, .int .i64 t551] 25 (0, 0)) (by (with_reducible repeat (first | refine blk_drewN ?_ _ | refine blk_drew ?_ | refine blk_alloc ?_ _)); refine blk_put (cs := #[.int .i64 t550, .int .i64 0]) ?_ 1 _ rfl; (with_reducible repeat (first | refine blk_drewN ?_ _ | refine blk_drew ?_ | refine blk_alloc ?_ _)); refine blk_put (cs := #[.int .i64 0, .int .i64 0]) ?_ 0 _ rfl; (with_reducible repeat (first | refine blk_drewN ?_ _ | refine blk_drew ?_ | refine blk_alloc ?_ _)); exact BK553.out) hb); have n5_ := Aside0.mk (below_step (by repeat (first | (with_reducible first | exact HB.out | apply below_alloc | apply pw_below_drewN | apply below_drew1 | refine below_set ?_ GE540.out | refine below_set ?_ GE541.out | refine below_set ?_ GE545.out | refine below_set ?_ GE549.out | refine below_set ?_ GE553.out) | exact HB.out)) hb); clear BK540; clear BK541; clear BK545; clear BK549; clear BK553; clear HB; have BK540 := n0_; have BK541 := n1_; have BK545 := n2_; have BK549 := n3_; have BK553 := n4_; have HB := n5_; clear n0_ n1_ n2_ n3_ n4_ n5_; (try clear hb); (try clear hb2); (try clear hk); (try clear hi)))
            go_ret
            exact ⟨by first | rfl | (simp [errW_none, errW_some] <;> rfl) | (simp [*, errW_none, errW_some] <;> rfl), by repeat (first | (with_reducible first | exact HB.out | apply below_alloc | apply pw_below_drewN | apply below_drew1 | refine below_set ?_ GE540.out | refine below_set ?_ GE541.out | refine below_set ?_ GE545.out | refine below_set ?_ GE549.out | refine below_set ?_ GE553.out) | exact HB.out)⟩
          · replace c66 := Bool.eq_false_iff.mpr c66
            subst c66
            have H1 : (some false) = some r := by rw [if_neg (show ¬ (false = true) by decide)] at H; exact H
            clear H
            have H := H1
            clear H1
            obtain rfl := Option.some.inj H
            have hnb85 := NB540_541.out
            have hnc85 := NB541_540.out
            have hnb86 := NB540_545.out
            have hnc86 := NB545_540.out
            have hnb87 := NB540_549.out
            have hnc87 := NB549_540.out
            have hcz88_0 : wc.cell? ⟨gb540, 0, none⟩ = some (.int .i64 t536) := (blk_cell BK540.out 0).trans rfl
            have hcz88_1 : wc.cell? ⟨gb540, 1, none⟩ = some (.int .i64 t537) := (blk_cell BK540.out 1).trans rfl
            have hfz88_0 := blk_frozen BK540.out 0
            have hfz88_1 := blk_frozen BK540.out 1
            have hnb89 := NB541_545.out
            have hnc89 := NB545_541.out
            have hnb90 := NB541_549.out
            have hnc90 := NB549_541.out
            have hcz91_0 : wc.cell? ⟨gb541, 0, none⟩ = some (.int .i64 t538) := (blk_cell BK541.out 0).trans rfl
            have hcz91_1 : wc.cell? ⟨gb541, 1, none⟩ = some (.int .i64 t539) := (blk_cell BK541.out 1).trans rfl
            have hfz91_0 := blk_frozen BK541.out 0
            have hfz91_1 := blk_frozen BK541.out 1
            go_wp2_with (first | ((with_reducible refine gate_callee (f := 30) rfl ?_); refine goesL_ (some 58) rfl rfl Tryd.func30 (by kernel_rfl) rfl #[.agg #[.int .i64 t536, .int .i64 t536], .agg #[.int .i64 t538, .int .i64 t539]] rfl (by (try simp only [List.map_toArray, List.map_cons, List.map_nil]); first | done | rfl | (simp only [List.length_drop, List.length_take]; rfl)) ?_; (with_reducible refine (impl_MulRange.calls t536 t536 t538 t539 t550 t551 false _ ?side1 A65.out).mono ?_); (case side1 => first | exact HTab.out | exact Tab.below HTab.out (by repeat (first | (with_reducible first | exact HB.out | apply below_alloc | apply pw_below_drewN | apply below_drew1 | refine below_set ?_ GE540.out | refine below_set ?_ GE541.out | refine below_set ?_ GE545.out | refine below_set ?_ GE549.out) | exact HB.out))); rintro e w92 ⟨rfl, hb⟩; refine ⟨_, rfl, ?_⟩; have n0_ := Aside0.mk (blk_below (g := gb540) (o := .cells #[.int .i64 t536, .int .i64 t537] 25 (0, 0)) (by (with_reducible repeat (first | refine blk_drewN ?_ _ | refine blk_drew ?_ | refine blk_alloc ?_ _)); exact BK540.out) hb); have n1_ := Aside0.mk (blk_below (g := gb541) (o := .cells #[.int .i64 t538, .int .i64 t539] 25 (0, 0)) (by (with_reducible repeat (first | refine blk_drewN ?_ _ | refine blk_drew ?_ | refine blk_alloc ?_ _)); exact BK541.out) hb); have n2_ := Aside0.mk (blk_below (g := gb545) (o := .cells #[.int .i64 t542, .int .i64 t543] 25 (0, 0)) (by (with_reducible repeat (first | refine blk_drewN ?_ _ | refine blk_drew ?_ | refine blk_alloc ?_ _)); exact BK545.out) hb); have n3_ := Aside0.mk (blk_below (g := gb549) (o := .cells #[.int .i64 t546, .int .i64 t547] 25 (0, 0)) (by (with_reducible repeat (first | refine blk_drewN ?_ _ | refine blk_drew ?_ | refine blk_alloc ?_ _)); exact BK549.out) hb); have n4_ := Aside0.mk (below_step (by repeat (first | (with_reducible first | exact HB.out | apply below_alloc | apply pw_below_drewN | apply below_drew1 | refine below_set ?_ GE540.out | refine below_set ?_ GE541.out | refine below_set ?_ GE545.out | refine below_set ?_ GE549.out) | exact HB.out)) hb); clear BK540; clear BK541; clear BK545; clear BK549; clear HB; have BK540 := n0_; have BK541 := n1_; have BK545 := n2_; have BK549 := n3_; have HB := n4_; clear n0_ n1_ n2_ n3_ n4_; (try clear hb); (try clear hb2); (try clear hk); (try clear hi)) | ((with_reducible refine gate_dst (N := 9) rfl ?_); refine box_event ?hg (N := 9) ?hd (cs := #[.int .i64 0, .int .i64 0]) (t := 25) ?hr ?_; (case hd => rfl); (case hg => rfl); (case hr => first | (go_simp; done) | (go_simp; rfl)); intro gb553 hg w93 hbox hb; have n0_ := Aside0.mk (blk_below (g := gb540) (o := .cells #[.int .i64 t536, .int .i64 t537] 25 (0, 0)) (by (with_reducible repeat (first | refine blk_drewN ?_ _ | refine blk_drew ?_ | refine blk_alloc ?_ _)); exact BK540.out) hb); have n1_ := Aside0.mk (blk_below (g := gb541) (o := .cells #[.int .i64 t538, .int .i64 t539] 25 (0, 0)) (by (with_reducible repeat (first | refine blk_drewN ?_ _ | refine blk_drew ?_ | refine blk_alloc ?_ _)); exact BK541.out) hb); have n2_ := Aside0.mk (blk_below (g := gb545) (o := .cells #[.int .i64 t542, .int .i64 t543] 25 (0, 0)) (by (with_reducible repeat (first | refine blk_drewN ?_ _ | refine blk_drew ?_ | refine blk_alloc ?_ _)); exact BK545.out) hb); have n3_ := Aside0.mk (blk_below (g := gb549) (o := .cells #[.int .i64 t546, .int .i64 t547] 25 (0, 0)) (by (with_reducible repeat (first | refine blk_drewN ?_ _ | refine blk_drew ?_ | refine blk_alloc ?_ _)); exact BK549.out) hb); have n4_ := Aside0.mk (below_step (by repeat (first | (with_reducible first | exact HB.out | apply below_alloc | apply pw_below_drewN | apply below_drew1 | refine below_set ?_ GE540.out | refine below_set ?_ GE541.out | refine below_set ?_ GE545.out | refine below_set ?_ GE549.out) | exact HB.out)) hb); have n5_ := Aside0.mk (hbox); have n6_ := Aside0.mk ((by rw [hg]; exact (below_size (by repeat (first | (with_reducible first | exact HB.out | apply below_alloc | apply pw_below_drewN | apply below_drew1 | refine below_set ?_ GE540.out | refine below_set ?_ GE541.out | refine below_set ?_ GE545.out | refine below_set ?_ GE549.out) | exact HB.out))) : w.heap.size ≤ gb553)); have n7_ := Aside0.mk ((by rw [hg]; exact (below_size (by repeat (first | (with_reducible first | exact HB.out | apply below_alloc | apply pw_below_drewN | apply below_drew1 | refine below_set ?_ GE540.out | refine below_set ?_ GE541.out | refine below_set ?_ GE545.out | refine below_set ?_ GE549.out) | exact HB.out))) : w.heap.size ≤ gb553)); have n8_ := Aside0.mk ((by rw [hg]; exact Nat.ne_of_lt (blk_lt (g := gb540) (o := .cells #[.int .i64 t536, .int .i64 t537] 25 (0, 0)) (by (with_reducible repeat (first | refine blk_drewN ?_ _ | refine blk_drew ?_ | refine blk_alloc ?_ _)); exact BK540.out)) : gb540 ≠ gb553)); have n9_ := Aside0.mk ((by rw [hg]; exact Nat.ne_of_gt (blk_lt (g := gb540) (o := .cells #[.int .i64 t536, .int .i64 t537] 25 (0, 0)) (by (with_reducible repeat (first | refine blk_drewN ?_ _ | refine blk_drew ?_ | refine blk_alloc ?_ _)); exact BK540.out)) : gb553 ≠ gb540)); have n10_ := Aside0.mk ((by rw [hg]; exact Nat.ne_of_lt (blk_lt (g := gb541) (o := .cells #[.int .i64 t538, .int .i64 t539] 25 (0, 0)) (by (with_reducible repeat (first | refine blk_drewN ?_ _ | refine blk_drew ?_ | refine blk_alloc ?_ _)); exact BK541.out)) : gb541 ≠ gb553)); have n11_ := Aside0.mk ((by rw [hg]; exact Nat.ne_of_gt (blk_lt (g := gb541) (o := .cells #[.int .i64 t538, .int .i64 t539] 25 (0, 0)) (by (with_reducible repeat (first | refine blk_drewN ?_ _ | refine blk_drew ?_ | refine blk_alloc ?_ _)); exact BK541.out)) : gb553 ≠ gb541)); have n12_ := Aside0.mk ((by rw [hg]; exact Nat.ne_of_lt (blk_lt (g := gb545) (o := .cells #[.int .i64 t542, .int .i64 t543] 25 (0, 0)) (by (with_reducible repeat (first | refine blk_drewN ?_ _ | refine blk_drew ?_ | refine blk_alloc ?_ _)); exact BK545.out)) : gb545 ≠ gb553)); have n13_ := Aside0.mk ((by rw [hg]; exact Nat.ne_of_gt (blk_lt (g := gb545) (o := .cells #[.int .i64 t542, .int .i64 t543] 25 (0, 0)) (by (with_reducible repeat (first | refine blk_drewN ?_ _ | refine blk_drew ?_ | refine blk_alloc ?_ _)); exact BK545.out)) : gb553 ≠ gb545)); have n14_ := Aside0.mk ((by rw [hg]; exact Nat.ne_of_lt (blk_lt (g := gb549) (o := .cells #[.int .i64 t546, .int .i64 t547] 25 (0, 0)) (by (with_reducible repeat (first | refine blk_drewN ?_ _ | refine blk_drew ?_ | refine blk_alloc ?_ _)); exact BK549.out)) : gb549 ≠ gb553)); have n15_ := Aside0.mk ((by rw [hg]; exact Nat.ne_of_gt (blk_lt (g := gb549) (o := .cells #[.int .i64 t546, .int .i64 t547] 25 (0, 0)) (by (with_reducible repeat (first | refine blk_drewN ?_ _ | refine blk_drew ?_ | refine blk_alloc ?_ _)); exact BK549.out)) : gb553 ≠ gb549)); clear BK540; clear BK541; clear BK545; clear BK549; clear HB; have BK540 := n0_; have BK541 := n1_; have BK545 := n2_; have BK549 := n3_; have HB := n4_; have BK553 := n5_; have GW553 := n6_; have GE553 := n7_; have NB540_553 := n8_; have NB553_540 := n9_; have NB541_553 := n10_; have NB553_541 := n11_; have NB545_553 := n12_; have NB553_545 := n13_; have NB549_553 := n14_; have NB553_549 := n15_; clear n0_ n1_ n2_ n3_ n4_ n5_ n6_ n7_ n8_ n9_ n10_ n11_ n12_ n13_ n14_ n15_; clear hb hbox hg; have hnb94 := NB553_540.out; have hnc94 := NB540_553.out; have hnb95 := NB553_541.out; have hnc95 := NB541_553.out; have hnb96 := NB553_545.out; have hnc96 := NB545_553.out; have hnb97 := NB553_549.out; have hnc97 := NB549_553.out; have hcz98_0 : w93.cell? ⟨gb553, 0, none⟩ = some (.int .i64 0) := (blk_cell BK553.out 0).trans rfl; have hcz98_1 : w93.cell? ⟨gb553, 1, none⟩ = some (.int .i64 0) := (blk_cell BK553.out 1).trans rfl; have hfz98_0 := blk_frozen BK553.out 0; have hfz98_1 := blk_frozen BK553.out 1))
            go_ret
            exact ⟨by first | rfl | (simp [errW_none, errW_some] <;> rfl) | (simp [*, errW_none, errW_some] <;> rfl), by repeat (first | (with_reducible first | exact HB.out | apply below_alloc | apply pw_below_drewN | apply below_drew1 | refine below_set ?_ GE540.out | refine below_set ?_ GE541.out | refine below_set ?_ GE545.out | refine below_set ?_ GE549.out | refine below_set ?_ GE553.out) | exact HB.out)⟩

/-- THE ONE PURE STATEMENT of laws_FnMulRangeInside: yours. -/
def laws_FnMulRangeInside.Pure : Prop := ∀ (l0 : List Int), l0.length ≤ maxLen → l0.length * 1 ≤ 140737488351232 → (∀ x ∈ l0, (Lit.int .u8 x).wf = true) → ∃ k, laws_FnMulRangeInside.f k l0 = some true
theorem laws_FnMulRangeInside.walk (P : laws_FnMulRangeInside.Pure) (a0 : Option Addr) (len0 cap0 : Nat) (z0 : List Int) (w : World) (w0 : (a0 = none ∧ len0 = 0 ∧ cap0 = 0 ∧ z0 = []) ∨ ∃ x, a0 = some x ∧ len0 ≤ cap0 ∧ cap0 ≤ maxLen ∧ z0.length = cap0 ∧ (∀ i, i < z0.length → w.cell? (x.add i) = some (.int .u8 (z0.getD i 0))) ∧ ∀ n ∈ z0, (Lit.int .u8 n).wf = true) (y0 : len0 * 1 ≤ 140737488351232) (hT : Tab w) :
    Calls Tryd.prog 14 #[.slice a0 len0 cap0] w fun e w' => e = .returned (.bool true) ∧ Below w.heap.size w w' := by
  obtain ⟨l0, rfl, hr0, hm0, hw0, hc0⟩ := ReadsInt.ofRowC w0
  obtain ⟨k, h⟩ := P l0 hm0 y0 hw0
  refine (laws_FnMulRangeInside.calls k _ _ l0 true w (Kd.C_of_reads (d := (0 : Int)) (h1 := fun _ => rfl) hr0) hc0 hT h).mono ?_
  rintro e w' ⟨rfl, hd⟩
  exact ⟨rfl, hd⟩

end Go.Proofs.YtemigniflobdcaaDoor.Q

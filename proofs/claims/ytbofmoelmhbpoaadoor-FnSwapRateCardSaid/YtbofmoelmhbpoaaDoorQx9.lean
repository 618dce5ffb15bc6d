/- Printed by a program (bprint.py) out of the translation: for each Go function a Lean function, and the proof that the call comes to its answers. Conditions: they stand in each theorem. -/
import Derived.Test.YtbofmoelmhbpoaaDoorQx0
import Derived.Test.YtbofmoelmhbpoaaDoorQx1
import Derived.Test.YtbofmoelmhbpoaaDoorQx4
import Derived.Test.YtbofmoelmhbpoaaDoorQx7
import Derived.Test.YtbofmoelmhbpoaaDoorQx8
import Derived.Test.YtbofmoelmhbpoaaDoorTab
namespace Go.Proofs.YtbofmoelmhbpoaaDoor.Q
open Go.RowKit Go.Proofs.YtbofmoelmhbpoaaDoorW.PrintWords Go.Proofs.YtbofmoelmhbpoaaDoorW.PrintLast Go.Proofs.YtbofmoelmhbpoaaDoorW.PrintMore
attribute [local go_sem] max2_int min2_int max_two min_two max_three min_three max_four min_four   -- for this text's walks alone
set_option linter.unusedVariables false
set_option linter.unusedSimpArgs false

attribute [local go_sem high] eqA30
set_option linter.unusedSectionVars false
variable [Sent]

/-! ### laws_FnSwapRate: function 4 -/
mutual
def laws_FnSwapRate.j0 : Nat → List (S30) → Int → Bool → Bool → Bool → Int → Int → Int → Int → Option (Bool)
 | 0, _, _, _, _, _, _, _, _, _ => none
 | k + 1, x3, x4, x6, x8, x47, x412000, x412001, x416000, x416001 => if x47 = true then (if (x412000 == x416000 && (x412001 == x416001)) = true then (some (x6 == x8)) else (some false)) else (laws_FnSwapRate.l0 k x3 x4 0 0 0 x412000 x412001)
def laws_FnSwapRate.l0 : Nat → List (S30) → Int → Int → Int → Int → Int → Int → Option (Bool)
 | 0, _, _, _, _, _, _, _ => none
 | k + 1, x3, x4, x9, x10, x11, x412000, x412001 => if x11 < x4 then (if 0 ≤ x11 then (if x11 < (x3.length : Int) then (laws_FnSwapRate.l0 k x3 x4 (wrap64 (x9 + ((rd_T30 x3 x11).f0))) (wrap64 (x10 + ((rd_T30 x3 x11).f1))) (wrap64 (x11 + 1)) x412000 x412001) else (none)) else (none)) else ((impl_MulRange.f x412000 x412001 x9 x10).bind fun bt418 => (if 0 ≤ (wrap64 (x4 - 1)) then (if (wrap64 (x4 - 1)) < (x3.length : Int) then ((impl_AddRange.f bt418.1 bt418.2.1 ((rd_T30 x3 (wrap64 (x4 - 1))).f0) ((rd_T30 x3 (wrap64 (x4 - 1))).f1)).bind fun bt423 => (if bt418.2.2 = true then (if bt423.2.2 = true then (if bt423.1 ≤ 1000000 then (some (decide (bt423.2.1 ≥ 1000000))) else (some false)) else (some true)) else (some true))) else (none)) else (none)))
end
def laws_FnSwapRate.f (k : Nat) (l0 : List Int) : Option (Bool) := if (l0.length : Int) > 1048576 then (some true) else ((spec_DrawSwapRate.f k l0).bind fun bt404 => ((impl_SwapRate.f k bt404.1 bt404.2).bind fun bt408 => ((spec_SwapRate.f k bt404.1 bt404.2).bind fun bt412 => (if (!(bt408.1 == bt412.1) || (!(bt408.2.1 == bt412.2.1))) = true then (laws_FnSwapRate.j0 k bt404.1 bt404.2 bt408.2.2 bt412.2.2 true bt408.1 bt408.2.1 bt412.1 bt412.2.1) else (if (bt408.2.2 != bt412.2.2) = true then (laws_FnSwapRate.j0 k bt404.1 bt404.2 bt408.2.2 bt412.2.2 true bt408.1 bt408.2.1 bt412.1 bt412.2.1) else (laws_FnSwapRate.j0 k bt404.1 bt404.2 bt408.2.2 bt412.2.2 (!bt408.2.2) bt408.1 bt408.2.1 bt412.1 bt412.2.1))))))
theorem laws_FnSwapRate.mono_l : ∀ k, (∀ y0 y1 y2 y3 y4 y5 y6 y7 y8, LeO (laws_FnSwapRate.j0 k y0 y1 y2 y3 y4 y5 y6 y7 y8) (laws_FnSwapRate.j0 (k + 1) y0 y1 y2 y3 y4 y5 y6 y7 y8)) ∧ (∀ y0 y1 y2 y3 y4 y5 y6, LeO (laws_FnSwapRate.l0 k y0 y1 y2 y3 y4 y5 y6) (laws_FnSwapRate.l0 (k + 1) y0 y1 y2 y3 y4 y5 y6))
 | 0 => ⟨fun _ _ _ _ _ _ _ _ _ r h => by simp [laws_FnSwapRate.j0] at h, fun _ _ _ _ _ _ _ r h => by simp [laws_FnSwapRate.l0] at h⟩
 | k + 1 => by
  obtain ⟨ih0, ih1⟩ := laws_FnSwapRate.mono_l k
  refine ⟨?_, ?_⟩
  ·
   intro y0 y1 y2 y3 y4 y5 y6 y7 y8
   unfold laws_FnSwapRate.j0
   repeat' first
   | (with_reducible exact ih0 _ _ _ _ _ _ _ _ _)
   | (with_reducible exact ih1 _ _ _ _ _ _ _)
   | (with_reducible exact impl_SwapRate.mono _ _ _)
   | (with_reducible exact spec_DrawSwapRate.mono _ _)
   | (with_reducible exact spec_SwapRate.mono _ _ _)
   | (with_reducible exact LeO.refl _)
   | (with_reducible exact LeO.none _)
   | (with_reducible refine LeO.ite ?_ ?_)
   | (with_reducible refine LeO.bind ?_ (fun _ => ?_))
   | exact ih0 _ _ _ _ _ _ _ _ _
   | exact ih1 _ _ _ _ _ _ _
   | exact impl_SwapRate.mono _ _ _
   | exact spec_DrawSwapRate.mono _ _
   | exact spec_SwapRate.mono _ _ _
   | exact LeO.none _
   | refine LeO.ite ?_ ?_
   | refine LeO.bind ?_ (fun _ => ?_)
  ·
   intro y0 y1 y2 y3 y4 y5 y6
   unfold laws_FnSwapRate.l0
   repeat' first
   | (with_reducible exact ih0 _ _ _ _ _ _ _ _ _)
   | (with_reducible exact ih1 _ _ _ _ _ _ _)
   | (with_reducible exact impl_SwapRate.mono _ _ _)
   | (with_reducible exact spec_DrawSwapRate.mono _ _)
   | (with_reducible exact spec_SwapRate.mono _ _ _)
   | (with_reducible exact LeO.refl _)
   | (with_reducible exact LeO.none _)
   | (with_reducible refine LeO.ite ?_ ?_)
   | (with_reducible refine LeO.bind ?_ (fun _ => ?_))
   | exact ih0 _ _ _ _ _ _ _ _ _
   | exact ih1 _ _ _ _ _ _ _
   | exact impl_SwapRate.mono _ _ _
   | exact spec_DrawSwapRate.mono _ _
   | exact spec_SwapRate.mono _ _ _
   | exact LeO.none _
   | refine LeO.ite ?_ ?_
   | refine LeO.bind ?_ (fun _ => ?_)
theorem laws_FnSwapRate.mono : ∀ a0 k, LeO (laws_FnSwapRate.f k a0) (laws_FnSwapRate.f (k + 1) a0) := by
 intro a0 k
 obtain ⟨ih0, ih1⟩ := laws_FnSwapRate.mono_l k
 unfold laws_FnSwapRate.f
 repeat' first
   | (with_reducible exact ih0 _ _ _ _ _ _ _ _ _)
   | (with_reducible exact ih1 _ _ _ _ _ _ _)
   | (with_reducible exact impl_SwapRate.mono _ _ _)
   | (with_reducible exact spec_DrawSwapRate.mono _ _)
   | (with_reducible exact spec_SwapRate.mono _ _ _)
   | (with_reducible exact LeO.refl _)
   | (with_reducible exact LeO.none _)
   | (with_reducible refine LeO.ite ?_ ?_)
   | (with_reducible refine LeO.bind ?_ (fun _ => ?_))
   | exact ih0 _ _ _ _ _ _ _ _ _
   | exact ih1 _ _ _ _ _ _ _
   | exact impl_SwapRate.mono _ _ _
   | exact spec_DrawSwapRate.mono _ _
   | exact spec_SwapRate.mono _ _ _
   | exact LeO.none _
   | refine LeO.ite ?_ ?_
   | refine LeO.bind ?_ (fun _ => ?_)
def laws_FnSwapRate.T16 : Bool × List (List Nat × List Nat) := (true, [([], []), ([], []), ([], []), ([2], [2]), ([1, 3], [1, 3]), ([4], [4]), ([0, 5], [0, 5]), ([6], [6]), ([7], [7]), ([7], [7]), ([], []), ([10, 8, 6, 0, 1, 2, 3, 4, 5, 6, 7, 8, 10], [8, 10]), ([9, 11, 0, 1, 2, 3, 4, 5, 6, 7, 8, 9, 10, 11], [9])])
def laws_FnSwapRate.B16 : List Nat := [0, 0, 0, 4, 14, 30, 63, 127, 255, 255, 0, 1535, 4095]
theorem laws_FnSwapRate.tab16 : rtab .any (opsOf Tryd.f4 16) = laws_FnSwapRate.T16 := by kernel_rfl
theorem laws_FnSwapRate.bits16 : waitsOk laws_FnSwapRate.T16.2 laws_FnSwapRate.B16 = true := by kernel_rfl
set_option maxHeartbeats 8000000 in
set_option maxRecDepth 100000 in
theorem laws_FnSwapRate.calls (k : Nat) (A0 : Option Addr) (c0 : Nat) (l0 : List Int) (r : Bool) (w : World) (hr0 : Kd.C (Kd.int .u8) w A0 l0.length l0) (hc0 : l0.length ≤ c0) (hT : Tab w) (h : laws_FnSwapRate.f k l0 = some r) :
  Calls Tryd.prog 4 #[.slice A0 l0.length c0] w fun e w' => e = .returned (.bool r) ∧ Below w.heap.size w w' := by
 have hu30 := Tryd.underlying30
 have HTab := Aside0.mk hT
 clear hT
 have HR0 := Aside0.mk hr0
 have HC0 := Aside0.mk hc0
 clear hr0 hc0
 have HB := Aside0.mk (Below.refl w.heap.size w)
 have H : (if (l0.length : Int) > 1048576 then (some true) else ((spec_DrawSwapRate.f k l0).bind fun bt404 => ((impl_SwapRate.f k bt404.1 bt404.2).bind fun bt408 => ((spec_SwapRate.f k bt404.1 bt404.2).bind fun bt412 => (if (!(bt408.1 == bt412.1) || (!(bt408.2.1 == bt412.2.1))) = true then (laws_FnSwapRate.j0 k bt404.1 bt404.2 bt408.2.2 bt412.2.2 true bt408.1 bt408.2.1 bt412.1 bt412.2.1) else (if (bt408.2.2 != bt412.2.2) = true then (laws_FnSwapRate.j0 k bt404.1 bt404.2 bt408.2.2 bt412.2.2 true bt408.1 bt408.2.1 bt412.1 bt412.2.1) else (laws_FnSwapRate.j0 k bt404.1 bt404.2 bt408.2.2 bt412.2.2 (!bt408.2.2) bt408.1 bt408.2.1 bt412.1 bt412.2.1))))))) = some r := h
 clear h
 by_cases c2 : (l0.length : Int) > 1048576
 ·
  rw [if_pos c2] at H
  have c2b0 : decide (1048576 < (l0.length : Int)) = true := decide_eq_true c2
  have c2b1 : decide (1048576 < l0.length) = true := decide_eq_true (by omega)
  clear c2
  obtain rfl := Option.some.inj H
  go_enter Tryd.func4, Tryd.ntmps4
  go_wp2
  go_ret
  exact ⟨by first | rfl | (simp [errW_none, errW_some] <;> rfl) | (simp [*, errW_none, errW_some] <;> rfl), by repeat (first | (with_reducible first | exact HB.out | apply below_alloc | apply pw_below_drewN | apply below_drew1) | exact HB.out)⟩
 ·
  rw [if_neg c2] at H
  have c2b0 : decide (1048576 < (l0.length : Int)) = false := decide_eq_false c2
  have c2b1 : decide (1048576 < l0.length) = false := decide_eq_false (by omega)
  clear c2
  replace H := Option.bind_eq_some_iff.mp H
  obtain ⟨⟨t404, t405⟩, A30, H⟩ := H
  replace H : ((impl_SwapRate.f k t404 t405).bind fun bt408 => ((spec_SwapRate.f k t404 t405).bind fun bt412 => (if (!(bt408.1 == bt412.1) || (!(bt408.2.1 == bt412.2.1))) = true then (laws_FnSwapRate.j0 k t404 t405 bt408.2.2 bt412.2.2 true bt408.1 bt408.2.1 bt412.1 bt412.2.1) else (if (bt408.2.2 != bt412.2.2) = true then (laws_FnSwapRate.j0 k t404 t405 bt408.2.2 bt412.2.2 true bt408.1 bt408.2.1 bt412.1 bt412.2.1) else (laws_FnSwapRate.j0 k t404 t405 bt408.2.2 bt412.2.2 (!bt408.2.2) bt408.1 bt408.2.1 bt412.1 bt412.2.1))))) = some r := H
  have A3 := Aside0.mk A30
  clear A30
  replace H := Option.bind_eq_some_iff.mp H
  obtain ⟨⟨t408, t409, t410⟩, A40, H⟩ := H
  replace H : ((spec_SwapRate.f k t404 t405).bind fun bt412 => (if (!(t408 == bt412.1) || (!(t409 == bt412.2.1))) = true then (laws_FnSwapRate.j0 k t404 t405 t410 bt412.2.2 true t408 t409 bt412.1 bt412.2.1) else (if (t410 != bt412.2.2) = true then (laws_FnSwapRate.j0 k t404 t405 t410 bt412.2.2 true t408 t409 bt412.1 bt412.2.1) else (laws_FnSwapRate.j0 k t404 t405 t410 bt412.2.2 (!t410) t408 t409 bt412.1 bt412.2.1)))) = some r := H
  have A4 := Aside0.mk A40
  clear A40
  replace H := Option.bind_eq_some_iff.mp H
  obtain ⟨⟨t412, t413, t414⟩, A50, H⟩ := H
  replace H : (if (!(t408 == t412) || (!(t409 == t413))) = true then (laws_FnSwapRate.j0 k t404 t405 t410 t414 true t408 t409 t412 t413) else (if (t410 != t414) = true then (laws_FnSwapRate.j0 k t404 t405 t410 t414 true t408 t409 t412 t413) else (laws_FnSwapRate.j0 k t404 t405 t410 t414 (!t410) t408 t409 t412 t413))) = some r := H
  have A5 := Aside0.mk A50
  clear A50
  have HC6 := Aside0.mk H
  clear H
  go_enter Tryd.func4, Tryd.ntmps4
  go_upto_region 6 with (first | ((with_reducible refine gate_callee (f := 12) rfl ?_); refine goesL_ (some 21) rfl rfl Tryd.func12 (by kernel_rfl) rfl #[.slice A0 l0.length c0] rfl (by (try simp only [List.map_toArray, List.map_cons, List.map_nil]); first | done | rfl | (simp only [List.length_drop, List.length_take]; rfl)) ?_; (with_reducible refine (spec_DrawSwapRate.calls k _ _ l0 t404 t405 _ ?side1 ?side2 A3.out).mono ?_); (case side1 => repeat (first | exact HR0.out | (with_reducible refine Kd.C_alloc ?_ _) | (with_reducible refine Kd.C_drewN ?_ _) | (with_reducible refine Kd.C_drew ?_))); (case side2 => exact HC0.out); rintro e w7 ⟨v406, rfl, ho0, hb⟩; refine ⟨_, rfl, ?_⟩; have n0_ := Aside0.mk (Kd.R_lower ho0 (below_size (bl_ HB))); have n1_ := Aside0.mk (below_step (bl_ HB) hb); clear HB; have HO407 := n0_; have HB := n1_; clear n0_ n1_; (try clear hb); (try clear hb2); (try clear hk); (try clear hi); (try clear ho0); obtain ⟨Ao8, co8, eo8⟩ := Kd.R_slice HO407.out; subst eo8) | ((with_reducible refine gate_callee (f := 10) rfl ?_); refine goesL_ (some 27) rfl rfl Tryd.func10 (by kernel_rfl) rfl #[.slice Ao8 t404.length co8, .int .i64 t405] rfl (by (try simp only [List.map_toArray, List.map_cons, List.map_nil]); first | done | rfl | (simp only [List.length_drop, List.length_take]; rfl)) ?_; (with_reducible refine (impl_SwapRate.calls k _ _ t404 t405 t408 t409 t410 _ ?side1 ?side2 ?side3 A4.out).mono ?_); (case side1 => repeat (first | exact (Kd.R_reads' HO407.out).2.2 | (with_reducible refine Kd.C_alloc ?_ _) | (with_reducible refine Kd.C_drewN ?_ _) | (with_reducible refine Kd.C_drew ?_))); (case side2 => exact (Kd.R_reads' HO407.out).2.1); (case side3 => first | exact HTab.out | exact Tab.below HTab.out (bl_ HB)); rintro e w9 ⟨rfl, hb⟩; refine ⟨_, rfl, ?_⟩; have n0_ := Aside0.mk (Kd.R_below (kr_ HO407) hb); have n1_ := Aside0.mk (below_step (bl_ HB) hb); clear HO407; clear HB; have HO407 := n0_; have HB := n1_; clear n0_ n1_; (try clear hb); (try clear hb2); (try clear hk); (try clear hi)) | ((with_reducible refine gate_dst (N := 5) rfl ?_); refine box_event ?hg (N := 5) ?hd (cs := #[.int .i64 0, .int .i64 0]) (t := 30) ?hr ?_; (case hd => rfl); (case hg => rfl); (case hr => first | (go_simp; done) | (go_simp; rfl)); intro gb411 hg w10 hbox hb; have n0_ := Aside0.mk (Kd.R_below (Kd.R_elderB (kr_ HO407) gb411 (Nat.le_of_eq hg.symm)) hb); have n1_ := Aside0.mk (below_step (bl_ HB) hb); have n2_ := Aside0.mk (hbox); have n3_ := Aside0.mk ((by rw [hg]; exact (below_size (bl_ HB)) : w.heap.size ≤ gb411)); have n4_ := Aside0.mk ((by rw [hg]; exact (below_size (bl_ HB)) : w.heap.size ≤ gb411)); clear HO407; clear HB; have HO407 := n0_; have HB := n1_; have BK411 := n2_; have GW411 := n3_; have GE411 := n4_; clear n0_ n1_ n2_ n3_ n4_; clear hb hbox hg; have hcz11_0 : w10.cell? ⟨gb411, 0, none⟩ = some (.int .i64 0) := (blk_cell BK411.out 0).trans rfl; have hcz11_1 : w10.cell? ⟨gb411, 1, none⟩ = some (.int .i64 0) := (blk_cell BK411.out 1).trans rfl; have hfz11_0 := blk_frozen BK411.out 0; have hfz11_1 := blk_frozen BK411.out 1) | ((with_reducible refine gate_callee (f := 13) rfl ?_); refine goesL_ (some 33) rfl rfl Tryd.func13 (by kernel_rfl) rfl #[.slice Ao8 t404.length co8, .int .i64 t405] rfl (by (try simp only [List.map_toArray, List.map_cons, List.map_nil]); first | done | rfl | (simp only [List.length_drop, List.length_take]; rfl)) ?_; (with_reducible refine (spec_SwapRate.calls k _ _ t404 t405 t412 t413 t414 _ ?side1 ?side2 A5.out).mono ?_); (case side1 => refine (Kd.R_reads' (e := 30) (base := w.heap.size) (ok := fun k_ => (True ∧ k_ ≠ gb411)) (n := t404.length) (c := co8) ?_).2.2; exact (by (with_reducible repeat (first | apply Kd.R_alloc | apply Kd.R_drewN | apply Kd.R_drew)); exact (Kd.R_mono (Kd.R_far (p := ⟨gb411, 1, none⟩) (Kd.R_far (p := ⟨gb411, 0, none⟩) (Kd.R_mono HO407.out (fun k_ hk => (⟨hk, hk.2⟩ : _ ∧ k_ ≠ gb411))) (fun _ hk => hk.2) (.int .i64 t408)) (fun _ hk => hk.2) (.int .i64 t409)) (fun _ h_ => h_.1)))); (case side2 => exact (Kd.R_reads' HO407.out).2.1); rintro e w12 ⟨rfl, hb⟩; refine ⟨_, rfl, ?_⟩; have n0_ := Aside0.mk (Kd.R_below (by (with_reducible repeat (first | apply Kd.R_alloc | apply Kd.R_drewN | apply Kd.R_drew)); exact (Kd.R_mono (Kd.R_far (p := ⟨gb411, 1, none⟩) (Kd.R_far (p := ⟨gb411, 0, none⟩) (Kd.R_mono HO407.out (fun k_ hk => (⟨hk, hk.2⟩ : _ ∧ k_ ≠ gb411))) (fun _ hk => hk.2) (.int .i64 t408)) (fun _ hk => hk.2) (.int .i64 t409)) (fun _ h_ => h_.1))) hb); have n1_ := Aside0.mk (blk_below (g := gb411) (o := .cells #[.int .i64 t408, .int .i64 t409] 30 (0, 0)) (by (with_reducible repeat (first | refine blk_drewN ?_ _ | refine blk_drew ?_ | refine blk_alloc ?_ _)); refine blk_put (cs := #[.int .i64 t408, .int .i64 0]) ?_ 1 _ rfl; (with_reducible repeat (first | refine blk_drewN ?_ _ | refine blk_drew ?_ | refine blk_alloc ?_ _)); refine blk_put (cs := #[.int .i64 0, .int .i64 0]) ?_ 0 _ rfl; (with_reducible repeat (first | refine blk_drewN ?_ _ | refine blk_drew ?_ | refine blk_alloc ?_ _)); exact BK411.out) hb); have n2_ := Aside0.mk (below_step (bl_ HB) hb); clear HO407; clear BK411; clear HB; have HO407 := n0_; have BK411 := n1_; have HB := n2_; clear n0_ n1_ n2_; (try clear hb); (try clear hb2); (try clear hk); (try clear hi)) | ((with_reducible refine gate_dst (N := 7) rfl ?_); refine box_event ?hg (N := 7) ?hd (cs := #[.int .i64 0, .int .i64 0]) (t := 30) ?hr ?_; (case hd => rfl); (case hg => rfl); (case hr => first | (go_simp; done) | (go_simp; rfl)); intro gb415 hg w13 hbox hb; have n0_ := Aside0.mk (Kd.R_below (Kd.R_elderB (kr_ HO407) gb415 (Nat.le_of_eq hg.symm)) hb); have n1_ := Aside0.mk (blk_below (g := gb411) (o := .cells #[.int .i64 t408, .int .i64 t409] 30 (0, 0)) (bk_ BK411) hb); have n2_ := Aside0.mk (below_step (bl_ HB) hb); have n3_ := Aside0.mk (hbox); have n4_ := Aside0.mk ((by rw [hg]; exact (below_size (bl_ HB)) : w.heap.size ≤ gb415)); have n5_ := Aside0.mk ((by rw [hg]; exact (below_size (bl_ HB)) : w.heap.size ≤ gb415)); have n6_ := Aside0.mk ((by rw [hg]; exact Nat.ne_of_lt (blk_lt (g := gb411) (o := .cells #[.int .i64 t408, .int .i64 t409] 30 (0, 0)) (bk_ BK411)) : gb411 ≠ gb415)); have n7_ := Aside0.mk ((by rw [hg]; exact Nat.ne_of_gt (blk_lt (g := gb411) (o := .cells #[.int .i64 t408, .int .i64 t409] 30 (0, 0)) (bk_ BK411)) : gb415 ≠ gb411)); clear HO407; clear BK411; clear HB; have HO407 := n0_; have BK411 := n1_; have HB := n2_; have BK415 := n3_; have GW415 := n4_; have GE415 := n5_; have NB411_415 := n6_; have NB415_411 := n7_; clear n0_ n1_ n2_ n3_ n4_ n5_ n6_ n7_; clear hb hbox hg; have hnb14 := NB415_411.out; have hnc14 := NB411_415.out; have hcz15_0 : w13.cell? ⟨gb415, 0, none⟩ = some (.int .i64 0) := (blk_cell BK415.out 0).trans rfl; have hcz15_1 : w13.cell? ⟨gb415, 1, none⟩ = some (.int .i64 0) := (blk_cell BK415.out 1).trans rfl; have hfz15_0 := blk_frozen BK415.out 0; have hfz15_1 := blk_frozen BK415.out 1))
  (try simp only [Act.put, sa_, sb_, sc_])
  go_cut [47] (fun v47 wc => ∃ (kq : Nat) (x47_5 : Bool), v47 = .bool x47_5 ∧ Aside0 (laws_FnSwapRate.j0 kq t404 t405 t410 t414 x47_5 t408 t409 t412 t413 = some r) ∧ Aside0 (kq ≤ k) ∧ Aside0 (Kd.R k30 30 wc w.heap.size (fun k_ => k_ ≠ gb411 ∧ k_ ≠ gb415) (.slice Ao8 t404.length co8) t404) ∧ Aside0 (wc.heap[gb411]? = some (.cells #[.int .i64 t408, .int .i64 t409] 30 (0, 0))) ∧ Aside0 (wc.heap[gb415]? = some (.cells #[.int .i64 t412, .int .i64 t413] 30 (0, 0))) ∧ Aside0 (Below w.heap.size w wc))
  case first =>
   have H := HC6.out
   clear HC6
   by_cases c16 : (!(t408 == t412) || (!(t409 == t413))) = true
   ·
    rw [if_pos c16] at H
    have c16b0 : (!(t408 == t412) || (!(t409 == t413))) = true := c16
    clear c16
    (first | rw [c16b0] | (simp only [i64_w, i32_w]; rw [c16b0]) | skip)
    have H' := Aside0.mk H
    clear H
    have hnb17 := NB411_415.out
    have hnc17 := NB415_411.out
    have hcz18_0 : w13.cell? ⟨gb411, 0, none⟩ = some (.int .i64 t408) := (blk_cell BK411.out 0).trans rfl
    have hcz18_1 : w13.cell? ⟨gb411, 1, none⟩ = some (.int .i64 t409) := (blk_cell BK411.out 1).trans rfl
    have hfz18_0 := blk_frozen BK411.out 0
    have hfz18_1 := blk_frozen BK411.out 1
    have hcz19_0 : w13.cell? ⟨gb415, 0, none⟩ = some (.int .i64 0) := (blk_cell BK415.out 0).trans rfl
    have hcz19_1 : w13.cell? ⟨gb415, 1, none⟩ = some (.int .i64 0) := (blk_cell BK415.out 1).trans rfl
    have hfz19_0 := blk_frozen BK415.out 0
    have hfz19_1 := blk_frozen BK415.out 1
    go_wp2
    go_meet
    case rel => exact ⟨_, (true), (by first | rfl | (simp; done) | (simp [*]; done)), H', ⟨by first | omega | exact Nat.le_refl _⟩, ⟨by (with_reducible repeat (first | apply Kd.R_alloc | apply Kd.R_drewN | apply Kd.R_drew)); exact Kd.R_mono (Kd.R_far (p := ⟨gb415, 1, none⟩) (Kd.R_far (p := ⟨gb415, 0, none⟩) (Kd.R_mono HO407.out (fun k_ hk => (⟨hk, hk.2⟩ : _ ∧ k_ ≠ gb415))) (fun _ hk => hk.2) (.int .i64 t412)) (fun _ hk => hk.2) (.int .i64 t413)) (fun _ hk => ⟨hk.1.1.2, hk.1.2⟩)⟩, ⟨by (with_reducible repeat (first | refine blk_drewN ?_ _ | refine blk_drew ?_ | refine blk_alloc ?_ _)); refine blk_far ?_ NB411_415.out _; (with_reducible repeat (first | refine blk_drewN ?_ _ | refine blk_drew ?_ | refine blk_alloc ?_ _)); refine blk_far ?_ NB411_415.out _; (with_reducible repeat (first | refine blk_drewN ?_ _ | refine blk_drew ?_ | refine blk_alloc ?_ _)); exact BK411.out⟩, ⟨by (with_reducible repeat (first | refine blk_drewN ?_ _ | refine blk_drew ?_ | refine blk_alloc ?_ _)); refine blk_put (cs := #[.int .i64 t412, .int .i64 0]) ?_ 1 _ rfl; (with_reducible repeat (first | refine blk_drewN ?_ _ | refine blk_drew ?_ | refine blk_alloc ?_ _)); refine blk_put (cs := #[.int .i64 0, .int .i64 0]) ?_ 0 _ rfl; (with_reducible repeat (first | refine blk_drewN ?_ _ | refine blk_drew ?_ | refine blk_alloc ?_ _)); exact BK415.out⟩, ⟨by repeat (first | (with_reducible first | exact HB.out | apply below_alloc | apply pw_below_drewN | apply below_drew1 | refine below_set ?_ GE411.out | refine below_set ?_ GE415.out) | exact HB.out)⟩⟩
   ·
    rw [if_neg c16] at H
    have c16b0 : (!(t408 == t412) || (!(t409 == t413))) = false := by simpa using c16
    clear c16
    (first | rw [c16b0] | (simp only [i64_w, i32_w]; rw [c16b0]) | skip)
    by_cases c20 : (t410 != t414) = true
    ·
     rw [if_pos c20] at H
     have c20b0 : (t410 != t414) = true := c20
     (try (have c20b1 : decide (t410 = t414) = false := by simpa using c20))
     (try (have c20b2 : (t410 == t414) = false := by simpa using c20))
     (try (have c20b3 : ¬ (t410 = t414) := by simpa using c20))
     clear c20
     have H' := Aside0.mk H
     clear H
     have hnb21 := NB411_415.out
     have hnc21 := NB415_411.out
     have hcz22_0 : w13.cell? ⟨gb411, 0, none⟩ = some (.int .i64 t408) := (blk_cell BK411.out 0).trans rfl
     have hcz22_1 : w13.cell? ⟨gb411, 1, none⟩ = some (.int .i64 t409) := (blk_cell BK411.out 1).trans rfl
     have hfz22_0 := blk_frozen BK411.out 0
     have hfz22_1 := blk_frozen BK411.out 1
     have hcz23_0 : w13.cell? ⟨gb415, 0, none⟩ = some (.int .i64 0) := (blk_cell BK415.out 0).trans rfl
     have hcz23_1 : w13.cell? ⟨gb415, 1, none⟩ = some (.int .i64 0) := (blk_cell BK415.out 1).trans rfl
     have hfz23_0 := blk_frozen BK415.out 0
     have hfz23_1 := blk_frozen BK415.out 1
     go_wp2
     go_meet
     case rel => exact ⟨_, (true), (by first | rfl | (simp; done) | (simp [*]; done)), H', ⟨by first | omega | exact Nat.le_refl _⟩, ⟨by (with_reducible repeat (first | apply Kd.R_alloc | apply Kd.R_drewN | apply Kd.R_drew)); exact Kd.R_mono (Kd.R_far (p := ⟨gb415, 1, none⟩) (Kd.R_far (p := ⟨gb415, 0, none⟩) (Kd.R_mono HO407.out (fun k_ hk => (⟨hk, hk.2⟩ : _ ∧ k_ ≠ gb415))) (fun _ hk => hk.2) (.int .i64 t412)) (fun _ hk => hk.2) (.int .i64 t413)) (fun _ hk => ⟨hk.1.1.2, hk.1.2⟩)⟩, ⟨by (with_reducible repeat (first | refine blk_drewN ?_ _ | refine blk_drew ?_ | refine blk_alloc ?_ _)); refine blk_far ?_ NB411_415.out _; (with_reducible repeat (first | refine blk_drewN ?_ _ | refine blk_drew ?_ | refine blk_alloc ?_ _)); refine blk_far ?_ NB411_415.out _; (with_reducible repeat (first | refine blk_drewN ?_ _ | refine blk_drew ?_ | refine blk_alloc ?_ _)); exact BK411.out⟩, ⟨by (with_reducible repeat (first | refine blk_drewN ?_ _ | refine blk_drew ?_ | refine blk_alloc ?_ _)); refine blk_put (cs := #[.int .i64 t412, .int .i64 0]) ?_ 1 _ rfl; (with_reducible repeat (first | refine blk_drewN ?_ _ | refine blk_drew ?_ | refine blk_alloc ?_ _)); refine blk_put (cs := #[.int .i64 0, .int .i64 0]) ?_ 0 _ rfl; (with_reducible repeat (first | refine blk_drewN ?_ _ | refine blk_drew ?_ | refine blk_alloc ?_ _)); exact BK415.out⟩, ⟨by repeat (first | (with_reducible first | exact HB.out | apply below_alloc | apply pw_below_drewN | apply below_drew1 | refine below_set ?_ GE411.out | refine below_set ?_ GE415.out) | exact HB.out)⟩⟩
    ·
     rw [if_neg c20] at H
     have c20b0 : (t410 != t414) = false := by simpa using c20
     (try (have c20b1 : decide (t410 = t414) = true := by simpa using c20))
     (try (have c20b2 : (t410 == t414) = true := by simpa using c20))
     clear c20
     have H' := Aside0.mk H
     clear H
     have hnb24 := NB411_415.out
     have hnc24 := NB415_411.out
     have hcz25_0 : w13.cell? ⟨gb411, 0, none⟩ = some (.int .i64 t408) := (blk_cell BK411.out 0).trans rfl
     have hcz25_1 : w13.cell? ⟨gb411, 1, none⟩ = some (.int .i64 t409) := (blk_cell BK411.out 1).trans rfl
     have hfz25_0 := blk_frozen BK411.out 0
     have hfz25_1 := blk_frozen BK411.out 1
     have hcz26_0 : w13.cell? ⟨gb415, 0, none⟩ = some (.int .i64 0) := (blk_cell BK415.out 0).trans rfl
     have hcz26_1 : w13.cell? ⟨gb415, 1, none⟩ = some (.int .i64 0) := (blk_cell BK415.out 1).trans rfl
     have hfz26_0 := blk_frozen BK415.out 0
     have hfz26_1 := blk_frozen BK415.out 1
     go_wp2
     go_meet
     case rel => exact ⟨_, (!t410), (by first | rfl | (simp; done) | (simp [*]; done)), H', ⟨by first | omega | exact Nat.le_refl _⟩, ⟨by (with_reducible repeat (first | apply Kd.R_alloc | apply Kd.R_drewN | apply Kd.R_drew)); exact Kd.R_mono (Kd.R_far (p := ⟨gb415, 1, none⟩) (Kd.R_far (p := ⟨gb415, 0, none⟩) (Kd.R_mono HO407.out (fun k_ hk => (⟨hk, hk.2⟩ : _ ∧ k_ ≠ gb415))) (fun _ hk => hk.2) (.int .i64 t412)) (fun _ hk => hk.2) (.int .i64 t413)) (fun _ hk => ⟨hk.1.1.2, hk.1.2⟩)⟩, ⟨by (with_reducible repeat (first | refine blk_drewN ?_ _ | refine blk_drew ?_ | refine blk_alloc ?_ _)); refine blk_far ?_ NB411_415.out _; (with_reducible repeat (first | refine blk_drewN ?_ _ | refine blk_drew ?_ | refine blk_alloc ?_ _)); refine blk_far ?_ NB411_415.out _; (with_reducible repeat (first | refine blk_drewN ?_ _ | refine blk_drew ?_ | refine blk_alloc ?_ _)); exact BK411.out⟩, ⟨by (with_reducible repeat (first | refine blk_drewN ?_ _ | refine blk_drew ?_ | refine blk_alloc ?_ _)); refine blk_put (cs := #[.int .i64 t412, .int .i64 0]) ?_ 1 _ rfl; (with_reducible repeat (first | refine blk_drewN ?_ _ | refine blk_drew ?_ | refine blk_alloc ?_ _)); refine blk_put (cs := #[.int .i64 0, .int .i64 0]) ?_ 0 _ rfl; (with_reducible repeat (first | refine blk_drewN ?_ _ | refine blk_drew ?_ | refine blk_alloc ?_ _)); exact BK415.out⟩, ⟨by repeat (first | (with_reducible first | exact HB.out | apply below_alloc | apply pw_below_drewN | apply below_drew1 | refine below_set ?_ GE411.out | refine below_set ?_ GE415.out) | exact HB.out)⟩⟩
  case rest =>
   clear HC6
   try clear c1
   try clear c2
   try clear c2b0
   try clear c2b1
   try clear p2
   try clear c4
   try clear c10
   try clear c12
   try clear c13
   try clear c14
   try clear c16
   try clear c16b0
   try clear c17
   try clear c20
   try clear c20b0
   try clear c20b1
   try clear c20b2
   try clear c21
   try clear c24
   try clear hcz11_0
   try clear hcz11_1
   try clear hcz15_0
   try clear hcz15_1
   try clear hcz18_0
   try clear hcz18_1
   try clear hcz19_0
   try clear hcz19_1
   try clear hcz22_0
   try clear hcz22_1
   try clear hcz23_0
   try clear hcz23_1
   try clear hcz25_0
   try clear hcz25_1
   try clear hcz26_0
   try clear hcz26_1
   try clear hfz11_0
   try clear hfz11_1
   try clear hfz15_0
   try clear hfz15_1
   try clear hfz18_0
   try clear hfz18_1
   try clear hfz19_0
   try clear hfz19_1
   try clear hfz22_0
   try clear hfz22_1
   try clear hfz23_0
   try clear hfz23_1
   try clear hfz25_0
   try clear hfz25_1
   try clear hfz26_0
   try clear hfz26_1
   obtain ⟨kq, x47_5, rfl, HA, HJ5, HO_3, BK411, BK415, HB⟩ := hcut
   cases kq with
   | zero => exact absurd HA.out (by simp [laws_FnSwapRate.j0])
   | succ kj5 =>
    have H := HA.out
    clear HA
    simp only [laws_FnSwapRate.j0] at H
    by_cases c27 : x47_5 = true
    ·
     subst c27
     have H1 : (if (t408 == t412 && (t409 == t413)) = true then (some (t410 == t414)) else (some false)) = some r := by rw [if_pos rfl] at H; exact H
     clear H
     have H := H1
     clear H1
     by_cases c28 : (t408 == t412 && (t409 == t413)) = true
     ·
      rw [if_pos c28] at H
      have c28b0 : (t408 == t412 && (t409 == t413)) = true := c28
      (try (have c28b1 : decide (t408 = t412 && (t409 == t413)) = true := by simpa using c28))
      (try (have c28b2 : (t408 == t412 && (t409 == t413)) = true := by simpa using c28))
      clear c28
      obtain rfl := Option.some.inj H
      have hnb29 := NB411_415.out
      have hnc29 := NB415_411.out
      have hcz30_0 : wc.cell? ⟨gb411, 0, none⟩ = some (.int .i64 t408) := (blk_cell BK411.out 0).trans rfl
      have hcz30_1 : wc.cell? ⟨gb411, 1, none⟩ = some (.int .i64 t409) := (blk_cell BK411.out 1).trans rfl
      have hfz30_0 := blk_frozen BK411.out 0
      have hfz30_1 := blk_frozen BK411.out 1
      have hcz31_0 : wc.cell? ⟨gb415, 0, none⟩ = some (.int .i64 t412) := (blk_cell BK415.out 0).trans rfl
      have hcz31_1 : wc.cell? ⟨gb415, 1, none⟩ = some (.int .i64 t413) := (blk_cell BK415.out 1).trans rfl
      have hfz31_0 := blk_frozen BK415.out 0
      have hfz31_1 := blk_frozen BK415.out 1
      go_wp2
      go_ret
      exact ⟨by first | rfl | (simp [errW_none, errW_some] <;> rfl) | (simp [*, errW_none, errW_some] <;> rfl), by repeat (first | (with_reducible first | exact HB.out | apply below_alloc | apply pw_below_drewN | apply below_drew1 | refine below_set ?_ GE411.out | refine below_set ?_ GE415.out) | exact HB.out)⟩
     ·
      rw [if_neg c28] at H
      have c28b0 : (t408 == t412 && (t409 == t413)) = false := by simpa using c28
      (try (have c28b1 : decide (t408 = t412 && (t409 == t413)) = false := by simpa using c28))
      (try (have c28b2 : (t408 == t412 && (t409 == t413)) = false := by simpa using c28))
      (try (have c28b3 : ¬ (t408 = t412 && (t409 == t413)) := by simpa using c28))
      clear c28
      obtain rfl := Option.some.inj H
      have hnb32 := NB411_415.out
      have hnc32 := NB415_411.out
      have hcz33_0 : wc.cell? ⟨gb411, 0, none⟩ = some (.int .i64 t408) := (blk_cell BK411.out 0).trans rfl
      have hcz33_1 : wc.cell? ⟨gb411, 1, none⟩ = some (.int .i64 t409) := (blk_cell BK411.out 1).trans rfl
      have hfz33_0 := blk_frozen BK411.out 0
      have hfz33_1 := blk_frozen BK411.out 1
      have hcz34_0 : wc.cell? ⟨gb415, 0, none⟩ = some (.int .i64 t412) := (blk_cell BK415.out 0).trans rfl
      have hcz34_1 : wc.cell? ⟨gb415, 1, none⟩ = some (.int .i64 t413) := (blk_cell BK415.out 1).trans rfl
      have hfz34_0 := blk_frozen BK415.out 0
      have hfz34_1 := blk_frozen BK415.out 1
      go_wp2
      go_ret
      exact ⟨by first | rfl | (simp [errW_none, errW_some] <;> rfl) | (simp [*, errW_none, errW_some] <;> rfl), by repeat (first | (with_reducible first | exact HB.out | apply below_alloc | apply pw_below_drewN | apply below_drew1 | refine below_set ?_ GE411.out | refine below_set ?_ GE415.out) | exact HB.out)⟩
    ·
     replace c27 := Bool.eq_false_iff.mpr c27
     subst c27
     have H1 : (laws_FnSwapRate.l0 kj5 t404 t405 0 0 0 t408 t409) = some r := by rw [if_neg (show ¬ (false = true) by decide)] at H; exact H
     clear H
     have H := H1
     clear H1
     have H' := Aside0.mk H
     clear H
     go_wp2
     go_loopg [9, 10, 11] kj5 (fun kq v9 v10 v11 w' => ∃ (x9_2 : Int) (x10_2 : Int) (x11_2 : Int), v9 = .int .i64 x9_2 ∧ v10 = .int .i64 x10_2 ∧ v11 = .int .i64 x11_2 ∧ Aside0 (laws_FnSwapRate.l0 kq t404 t405 x9_2 x10_2 x11_2 t408 t409 = some r) ∧ Aside0 (kq ≤ kj5) ∧ Aside0 (Kd.R k30 30 w' w.heap.size (fun k_ => k_ ≠ gb411 ∧ k_ ≠ gb415) (.slice Ao8 t404.length co8) t404) ∧ Aside0 (w'.heap[gb411]? = some (.cells #[.int .i64 t408, .int .i64 t409] 30 (0, 0))) ∧ Aside0 (w'.heap[gb415]? = some (.cells #[.int .i64 t412, .int .i64 t413] 30 (0, 0))) ∧ Aside0 (Below w.heap.size w w'))
     case atStart => exact ⟨(0), (0), (0), (by first | rfl | (simp; done) | (simp [*]; done)), (by first | rfl | (simp; done) | (simp [*]; done)), (by first | rfl | (simp; done) | (simp [*]; done)), H', ⟨Nat.le_refl _⟩, ⟨by (with_reducible repeat (first | apply Kd.R_alloc | apply Kd.R_drewN | apply Kd.R_drew)); exact HO_3.out⟩, ⟨by (with_reducible repeat (first | refine blk_drewN ?_ _ | refine blk_drew ?_ | refine blk_alloc ?_ _)); exact BK411.out⟩, ⟨by (with_reducible repeat (first | refine blk_drewN ?_ _ | refine blk_drew ?_ | refine blk_alloc ?_ _)); exact BK415.out⟩, ⟨by repeat (first | (with_reducible first | exact HB.out | apply below_alloc | apply pw_below_drewN | apply below_drew1 | refine below_set ?_ GE411.out | refine below_set ?_ GE415.out) | exact HB.out)⟩⟩
     case round =>
      clear H'
      try clear c1
      try clear c2
      try clear c2b0
      try clear c2b1
      try clear p2
      try clear c3
      try clear c4
      try clear c10
      try clear c12
      try clear c13
      try clear c14
      try clear c16
      try clear c16b0
      try clear c17
      try clear c20
      try clear c20b0
      try clear c20b1
      try clear c20b2
      try clear c21
      try clear c24
      try clear c27
      try clear c28
      try clear c28b0
      try clear c28b1
      try clear c28b2
      try clear c29
      try clear c32
      try clear hcz11_0
      try clear hcz11_1
      try clear hcz15_0
      try clear hcz15_1
      try clear hcz18_0
      try clear hcz18_1
      try clear hcz19_0
      try clear hcz19_1
      try clear hcz22_0
      try clear hcz22_1
      try clear hcz23_0
      try clear hcz23_1
      try clear hcz25_0
      try clear hcz25_1
      try clear hcz26_0
      try clear hcz26_1
      try clear hcz30_0
      try clear hcz30_1
      try clear hcz31_0
      try clear hcz31_1
      try clear hcz33_0
      try clear hcz33_1
      try clear hcz34_0
      try clear hcz34_1
      try clear hfz11_0
      try clear hfz11_1
      try clear hfz15_0
      try clear hfz15_1
      try clear hfz18_0
      try clear hfz18_1
      try clear hfz19_0
      try clear hfz19_1
      try clear hfz22_0
      try clear hfz22_1
      try clear hfz23_0
      try clear hfz23_1
      try clear hfz25_0
      try clear hfz25_1
      try clear hfz26_0
      try clear hfz26_1
      try clear hfz30_0
      try clear hfz30_1
      try clear hfz31_0
      try clear hfz31_1
      try clear hfz33_0
      try clear hfz33_1
      try clear hfz34_0
      try clear hfz34_1
      try clear p2
      obtain ⟨x9_2, x10_2, x11_2, rfl, rfl, rfl, HA, HK2, HO_3, BK411, BK415, HB⟩ := hrel
      cases gk with
      | zero => exact absurd HA.out (by simp [laws_FnSwapRate.l0])
      | succ k2 =>
       have H := HA.out
       clear HA
       simp only [laws_FnSwapRate.l0] at H
       by_cases c35 : x11_2 < t405
       ·
        rw [if_pos c35] at H
        have c35b0 : decide (x11_2 < t405) = true := decide_eq_true c35
        clear c35
        by_cases c36 : 0 ≤ x11_2
        ·
         rw [if_pos c36] at H
         have c36b0 : decide (0 ≤ x11_2) = true := decide_eq_true c36
         clear c36
         by_cases c37 : x11_2 < (t404.length : Int)
         ·
          rw [if_pos c37] at H
          have c37b0 : decide (x11_2 < (t404.length : Int)) = true := decide_eq_true c37
          clear c37
          have H' := Aside0.mk H
          clear H
          have p416 : 0 ≤ (x11_2 : Int) := of_decide_eq_true (by first | (with_reducible assumption) | assumption)
          have q416 : x11_2 < (t404.length : Int) := of_decide_eq_true (by first | (with_reducible assumption) | assumption)
          obtain ⟨ad416, e416, hx416_0, hx416_1⟩ := at_T30 (Kd.R_reads' HO_3.out).2.2 x11_2 p416 q416
          cases e416
          replace p416 := eq_true p416
          replace q416 := eq_true q416
          have p417 : 0 ≤ (x11_2 : Int) := of_decide_eq_true (by first | (with_reducible assumption) | assumption)
          have q417 : x11_2 < (t404.length : Int) := of_decide_eq_true (by first | (with_reducible assumption) | assumption)
          obtain ⟨ad417, e417, hx417_0, hx417_1⟩ := at_T30 (Kd.R_reads' HO_3.out).2.2 x11_2 p417 q417
          obtain rfl : ad416 = ad417 := (by injection e417)
          replace p417 := eq_true p417
          replace q417 := eq_true q417
          go_wp2
          go_roundg k2
          case measure => have := HJ5.out; have := HK2.out; omega
          case rel => exact ⟨(wrap64 (x9_2 + ((rd_T30 t404 x11_2).f0))), (wrap64 (x10_2 + ((rd_T30 t404 x11_2).f1))), (wrap64 (x11_2 + 1)), (by first | rfl | (simp; done) | (simp [*]; done)), (by first | rfl | (simp; done) | (simp [*]; done)), (by first | rfl | (simp; done) | (simp [*]; done)), H', ⟨by have := HJ5.out; have := HK2.out; omega⟩, ⟨by (with_reducible repeat (first | apply Kd.R_alloc | apply Kd.R_drewN | apply Kd.R_drew)); exact HO_3.out⟩, ⟨by (with_reducible repeat (first | refine blk_drewN ?_ _ | refine blk_drew ?_ | refine blk_alloc ?_ _)); exact BK411.out⟩, ⟨by (with_reducible repeat (first | refine blk_drewN ?_ _ | refine blk_drew ?_ | refine blk_alloc ?_ _)); exact BK415.out⟩, ⟨by repeat (first | (with_reducible first | exact HB.out | apply below_alloc | apply pw_below_drewN | apply below_drew1 | refine below_set ?_ GE411.out | refine below_set ?_ GE415.out) | exact HB.out)⟩⟩
         ·
          rw [if_neg c37] at H
          exact absurd H (by simp)
        ·
         rw [if_neg c36] at H
         exact absurd H (by simp)
       ·
        rw [if_neg c35] at H
        have c35b0 : decide (x11_2 < t405) = false := decide_eq_false c35
        clear c35
        replace H := Option.bind_eq_some_iff.mp H
        obtain ⟨⟨t418, t419, t420⟩, A380, H⟩ := H
        replace H : (if 0 ≤ (wrap64 (t405 - 1)) then (if (wrap64 (t405 - 1)) < (t404.length : Int) then ((impl_AddRange.f t418 t419 ((rd_T30 t404 (wrap64 (t405 - 1))).f0) ((rd_T30 t404 (wrap64 (t405 - 1))).f1)).bind fun bt423 => (if t420 = true then (if bt423.2.2 = true then (if bt423.1 ≤ 1000000 then (some (decide (bt423.2.1 ≥ 1000000))) else (some false)) else (some true)) else (some true))) else (none)) else (none)) = some r := H
        have A38 := Aside0.mk A380
        clear A380
        obtain ⟨ji39, hji39⟩ : ∃ j_ : Int, (wrap64 (t405 - 1)) = j_ := ⟨_, rfl⟩
        replace H : (if 0 ≤ (ji39) then (if (ji39) < (t404.length : Int) then ((impl_AddRange.f t418 t419 ((rd_T30 t404 (ji39)).f0) ((rd_T30 t404 (ji39)).f1)).bind fun bt423 => (if t420 = true then (if bt423.2.2 = true then (if bt423.1 ≤ 1000000 then (some (decide (bt423.2.1 ≥ 1000000))) else (some false)) else (some true)) else (some true))) else (none)) else (none)) = some r := by first | (rw [hji39] at H; exact H) | (simp only [hji39] at H ⊢; exact H)
        (try rw [hji39] at A38)
        have hji39w : (IntKind.i64.wrap (t405 - 1)) = ji39 := (i64_w _).trans hji39
        by_cases c40 : 0 ≤ (ji39)
        ·
         rw [if_pos c40] at H
         have c40b0 : decide (0 ≤ (ji39)) = true := decide_eq_true c40
         clear c40
         by_cases c41 : (ji39) < (t404.length : Int)
         ·
          rw [if_pos c41] at H
          have c41b0 : decide ((ji39) < (t404.length : Int)) = true := decide_eq_true c41
          clear c41
          replace H := Option.bind_eq_some_iff.mp H
          obtain ⟨⟨t423, t424, t425⟩, A420, H⟩ := H
          replace H : (if t420 = true then (if t425 = true then (if t423 ≤ 1000000 then (some (decide (t424 ≥ 1000000))) else (some false)) else (some true)) else (some true)) = some r := H
          have A42 := Aside0.mk A420
          clear A420
          by_cases c43 : t420 = true
          ·
           subst c43
           have H1 : (if t425 = true then (if t423 ≤ 1000000 then (some (decide (t424 ≥ 1000000))) else (some false)) else (some true)) = some r := by rw [if_pos rfl] at H; exact H
           clear H
           have H := H1
           clear H1
           by_cases c44 : t425 = true
           ·
            subst c44
            have H1 : (if t423 ≤ 1000000 then (some (decide (t424 ≥ 1000000))) else (some false)) = some r := by rw [if_pos rfl] at H; exact H
            clear H
            have H := H1
            clear H1
            by_cases c45 : t423 ≤ 1000000
            ·
             rw [if_pos c45] at H
             have c45b0 : decide (t423 ≤ 1000000) = true := decide_eq_true c45
             clear c45
             obtain rfl := Option.some.inj H
             have hnb46 := NB411_415.out
             have hnc46 := NB415_411.out
             have hcz47_0 : wr.cell? ⟨gb411, 0, none⟩ = some (.int .i64 t408) := (blk_cell BK411.out 0).trans rfl
             have hcz47_1 : wr.cell? ⟨gb411, 1, none⟩ = some (.int .i64 t409) := (blk_cell BK411.out 1).trans rfl
             have hfz47_0 := blk_frozen BK411.out 0
             have hfz47_1 := blk_frozen BK411.out 1
             try go_wp2_with (first | ((with_reducible refine gate_callee (f := 14) rfl ?_); refine goesL_ (some 80) rfl rfl Tryd.func14 (by kernel_rfl) rfl #[.agg #[.int .i64 t408, .int .i64 t409], .agg #[.int .i64 x9_2, .int .i64 x10_2]] rfl (by (try simp only [List.map_toArray, List.map_cons, List.map_nil]); first | done | rfl | (simp only [List.length_drop, List.length_take]; rfl)) ?_; (with_reducible refine (impl_MulRange.calls t408 t409 x9_2 x10_2 t418 t419 true _ ?side1 A38.out).mono ?_); (case side1 => first | exact HTab.out | exact Tab.below HTab.out (bl_ HB)); rintro e w48 ⟨rfl, hb⟩; refine ⟨_, rfl, ?_⟩; have n0_ := Aside0.mk (Kd.R_below (kr_ HO_3) hb); have n1_ := Aside0.mk (blk_below (g := gb411) (o := .cells #[.int .i64 t408, .int .i64 t409] 30 (0, 0)) (bk_ BK411) hb); have n2_ := Aside0.mk (blk_below (g := gb415) (o := .cells #[.int .i64 t412, .int .i64 t413] 30 (0, 0)) (bk_ BK415) hb); have n3_ := Aside0.mk (below_step (bl_ HB) hb); clear HO_3; clear BK411; clear BK415; clear HB; have HO_3 := n0_; have BK411 := n1_; have BK415 := n2_; have HB := n3_; clear n0_ n1_ n2_ n3_; (try clear hb); (try clear hb2); (try clear hk); (try clear hi)) | ((with_reducible refine gate_dst (N := 12) rfl ?_); refine box_event ?hg (N := 12) ?hd (cs := #[.int .i64 0, .int .i64 0]) (t := 30) ?hr ?_; (case hd => rfl); (case hg => rfl); (case hr => first | (go_simp; done) | (go_simp; rfl)); intro gb421 hg w49 hbox hb; have n0_ := Aside0.mk (Kd.R_below (Kd.R_elderB (kr_ HO_3) gb421 (Nat.le_of_eq hg.symm)) hb); have n1_ := Aside0.mk (blk_below (g := gb411) (o := .cells #[.int .i64 t408, .int .i64 t409] 30 (0, 0)) (bk_ BK411) hb); have n2_ := Aside0.mk (blk_below (g := gb415) (o := .cells #[.int .i64 t412, .int .i64 t413] 30 (0, 0)) (bk_ BK415) hb); have n3_ := Aside0.mk (below_step (bl_ HB) hb); have n4_ := Aside0.mk (hbox); have n5_ := Aside0.mk ((by rw [hg]; exact (below_size (bl_ HB)) : w.heap.size ≤ gb421)); have n6_ := Aside0.mk ((by rw [hg]; exact (below_size (bl_ HB)) : w.heap.size ≤ gb421)); have n7_ := Aside0.mk ((by rw [hg]; exact Nat.ne_of_lt (blk_lt (g := gb411) (o := .cells #[.int .i64 t408, .int .i64 t409] 30 (0, 0)) (bk_ BK411)) : gb411 ≠ gb421)); have n8_ := Aside0.mk ((by rw [hg]; exact Nat.ne_of_gt (blk_lt (g := gb411) (o := .cells #[.int .i64 t408, .int .i64 t409] 30 (0, 0)) (bk_ BK411)) : gb421 ≠ gb411)); have n9_ := Aside0.mk ((by rw [hg]; exact Nat.ne_of_lt (blk_lt (g := gb415) (o := .cells #[.int .i64 t412, .int .i64 t413] 30 (0, 0)) (bk_ BK415)) : gb415 ≠ gb421)); have n10_ := Aside0.mk ((by rw [hg]; exact Nat.ne_of_gt (blk_lt (g := gb415) (o := .cells #[.int .i64 t412, .int .i64 t413] 30 (0, 0)) (bk_ BK415)) : gb421 ≠ gb415)); clear HO_3; clear BK411; clear BK415; clear HB; have HO_3 := n0_; have BK411 := n1_; have BK415 := n2_; have HB := n3_; have BK421 := n4_; have GW421 := n5_; have GE421 := n6_; have NB411_421 := n7_; have NB421_411 := n8_; have NB415_421 := n9_; have NB421_415 := n10_; clear n0_ n1_ n2_ n3_ n4_ n5_ n6_ n7_ n8_ n9_ n10_; clear hb hbox hg; have hnb50 := NB421_411.out; have hnc50 := NB411_421.out; have hnb51 := NB421_415.out; have hnc51 := NB415_421.out; have hcz52_0 : w49.cell? ⟨gb421, 0, none⟩ = some (.int .i64 0) := (blk_cell BK421.out 0).trans rfl; have hcz52_1 : w49.cell? ⟨gb421, 1, none⟩ = some (.int .i64 0) := (blk_cell BK421.out 1).trans rfl; have hfz52_0 := blk_frozen BK421.out 0; have hfz52_1 := blk_frozen BK421.out 1))
             have n0_ : Aside0 (Kd.R k30 30 ((w49.setCell ⟨gb421, 0, none⟩ (.int .i64 t418)).setCell ⟨gb421, 1, none⟩ (.int .i64 t419)) w.heap.size (fun k_ => k_ ≠ gb411 ∧ k_ ≠ gb415 ∧ k_ ≠ gb421) (.slice Ao8 t404.length co8) t404) := ⟨by (with_reducible repeat (first | apply Kd.R_alloc | apply Kd.R_drewN | apply Kd.R_drew)); exact Kd.R_mono (Kd.R_far (p := ⟨gb421, 1, none⟩) (Kd.R_far (p := ⟨gb421, 0, none⟩) (Kd.R_mono HO_3.out (fun k_ hk => (⟨hk, hk.2⟩ : _ ∧ k_ ≠ gb421))) (fun _ hk => hk.2) (.int .i64 t418)) (fun _ hk => hk.2) (.int .i64 t419)) (fun _ hk => ⟨hk.1.1.1, ⟨hk.1.1.2, hk.1.2⟩⟩)⟩
             have n1_ : Aside0 (((w49.setCell ⟨gb421, 0, none⟩ (.int .i64 t418)).setCell ⟨gb421, 1, none⟩ (.int .i64 t419)).heap[gb411]? = some (.cells #[.int .i64 t408, .int .i64 t409] 30 (0, 0))) := ⟨by (with_reducible repeat (first | refine blk_drewN ?_ _ | refine blk_drew ?_ | refine blk_alloc ?_ _)); refine blk_far ?_ NB411_421.out _; (with_reducible repeat (first | refine blk_drewN ?_ _ | refine blk_drew ?_ | refine blk_alloc ?_ _)); refine blk_far ?_ NB411_421.out _; (with_reducible repeat (first | refine blk_drewN ?_ _ | refine blk_drew ?_ | refine blk_alloc ?_ _)); exact BK411.out⟩
             have n2_ : Aside0 (((w49.setCell ⟨gb421, 0, none⟩ (.int .i64 t418)).setCell ⟨gb421, 1, none⟩ (.int .i64 t419)).heap[gb415]? = some (.cells #[.int .i64 t412, .int .i64 t413] 30 (0, 0))) := ⟨by (with_reducible repeat (first | refine blk_drewN ?_ _ | refine blk_drew ?_ | refine blk_alloc ?_ _)); refine blk_far ?_ NB415_421.out _; (with_reducible repeat (first | refine blk_drewN ?_ _ | refine blk_drew ?_ | refine blk_alloc ?_ _)); refine blk_far ?_ NB415_421.out _; (with_reducible repeat (first | refine blk_drewN ?_ _ | refine blk_drew ?_ | refine blk_alloc ?_ _)); exact BK415.out⟩
             have n3_ : Aside0 (((w49.setCell ⟨gb421, 0, none⟩ (.int .i64 t418)).setCell ⟨gb421, 1, none⟩ (.int .i64 t419)).heap[gb421]? = some (.cells #[.int .i64 t418, .int .i64 t419] 30 (0, 0))) := ⟨by (with_reducible repeat (first | refine blk_drewN ?_ _ | refine blk_drew ?_ | refine blk_alloc ?_ _)); refine blk_put (cs := #[.int .i64 t418, .int .i64 0]) ?_ 1 _ rfl; (with_reducible repeat (first | refine blk_drewN ?_ _ | refine blk_drew ?_ | refine blk_alloc ?_ _)); refine blk_put (cs := #[.int .i64 0, .int .i64 0]) ?_ 0 _ rfl; (with_reducible repeat (first | refine blk_drewN ?_ _ | refine blk_drew ?_ | refine blk_alloc ?_ _)); exact BK421.out⟩
             have n4_ : Aside0 (Below w.heap.size w ((w49.setCell ⟨gb421, 0, none⟩ (.int .i64 t418)).setCell ⟨gb421, 1, none⟩ (.int .i64 t419))) := ⟨by repeat (first | (with_reducible first | exact HB.out | apply below_alloc | apply pw_below_drewN | apply below_drew1 | refine below_set ?_ GE411.out | refine below_set ?_ GE415.out | refine below_set ?_ GE421.out) | exact HB.out)⟩
             (try clear HO_3)
             (try clear BK411)
             (try clear BK415)
             (try clear BK421)
             (try clear HB)
             generalize ((w49.setCell ⟨gb421, 0, none⟩ (.int .i64 t418)).setCell ⟨gb421, 1, none⟩ (.int .i64 t419)) = w53 at n0_ n1_ n2_ n3_ n4_ ⊢
             have HO_3 := n0_
             have BK411 := n1_
             have BK415 := n2_
             have BK421 := n3_
             have HB := n4_
             clear n0_ n1_ n2_ n3_ n4_
             have n0_ := Aside0.mk (Kd.R_drew HO_3.out)
             have n1_ := Aside0.mk (blk_drew BK411.out)
             have n2_ := Aside0.mk (blk_drew BK415.out)
             have n3_ := Aside0.mk (blk_drew BK421.out)
             have n4_ := Aside0.mk (below_drew1 HB.out)
             clear HO_3
             clear BK411
             clear BK415
             clear BK421
             clear HB
             have HO_3 := n0_
             have BK411 := n1_
             have BK415 := n2_
             have BK421 := n3_
             have HB := n4_
             clear n0_ n1_ n2_ n3_ n4_
             have p422 : 0 ≤ ((ji39) : Int) := of_decide_eq_true (by first | (with_reducible assumption) | assumption)
             have q422 : (ji39) < (t404.length : Int) := of_decide_eq_true (by first | (with_reducible assumption) | assumption)
             obtain ⟨ad422, e422, hx422_0, hx422_1⟩ := at_T30 (Kd.R_reads' HO_3.out).2.2 (ji39) p422 q422
             cases e422
             replace p422 := eq_true p422
             replace q422 := eq_true q422
             refine start_ (n := 13) (S := fun w' => w'.cell? ⟨gb421, 0, none⟩ = some (.int .i64 t418) ∧ w'.cell? ⟨gb421, 1, none⟩ = some (.int .i64 t419) ∧ w'.cell? (ad422.add (((ji39)).toNat * 2)) = some (.int .i64 ((rd_T30 t404 (ji39)).f0)) ∧ w'.cell? ⟨(ad422.add (((ji39)).toNat * 2)).block, (ad422.add (((ji39)).toNat * 2)).off + 1, none⟩ = some (.int .i64 ((rd_T30 t404 (ji39)).f1))) (ds := []) #[false, false, false, false, false, false, false, false, false, false, false, false, false] (by kernel_rfl) rfl rfl ⟨(blk_cell BK421.out 0).trans rfl, (blk_cell BK421.out 1).trans rfl, hx422_0, hx422_1⟩ (fun hHeld => ?_); refine with_tabW laws_FnSwapRate.tab16 laws_FnSwapRate.bits16 (fun HT_ HW_ => ?_)
             generalize w53.drew = w54 at HO_3 BK411 BK415 BK421 HB hx422_0 hx422_1 hHeld ⊢
             refine pure_ (i := 1) (N := some 85) (v := ?_) (a' := ?_) #[false, true, false, false, false, false, false, false, false, false, false, false, false] rfl rfl (any_of HT_.out (by kernel_rfl)) (fun _ _ _ h => h) (Or.inl ⟨by rfl, ?_⟩) ?_ ?_
             rotate_left
             ·
              intro w'
              go_simp
              with_reducible rfl
             rotate_left
             ·
              simp only [Act.put, sa_, sb_, sc_, i64_w, i32_w]
              rfl
             refine pure_ (i := 2) (N := some 86) (v := ?_) (a' := ?_) #[false, true, true, false, false, false, false, false, false, false, false, false, false] rfl rfl (any_of HT_.out (by kernel_rfl)) (fun _ _ _ h => h) (Or.inl ⟨by rfl, ?_⟩) ?_ ?_
             rotate_left
             ·
              intro w'
              go_simp
              with_reducible rfl
             rotate_left
             ·
              simp only [Act.put, sa_, sb_, sc_, i64_w, i32_w]
              rfl
             refine pure_ (i := 3) (N := some 87) (v := ?_) (a' := ?_) #[false, true, true, true, false, false, false, false, false, false, false, false, false] rfl rfl (any_of HT_.out (by kernel_rfl)) (fun _ _ _ h => h) (Or.inl ⟨by rfl, ?_⟩) ?_ ?_
             rotate_left
             ·
              intro w'
              go_simp
              with_reducible rfl
             rotate_left
             ·
              simp only [Act.put, sa_, sb_, sc_, i64_w, i32_w]
              rfl
             refine pure_ (i := 4) (N := some 88) (v := ?_) (a' := ?_) #[false, true, true, true, true, false, false, false, false, false, false, false, false] rfl rfl (any_of HT_.out (by kernel_rfl)) (fun _ _ _ h => h) (Or.inl ⟨by rfl, ?_⟩) ?_ ?_
             rotate_left
             ·
              intro w'
              go_simp
              with_reducible rfl
             rotate_left
             ·
              simp only [Act.put, sa_, sb_, sc_, i64_w, i32_w]
              rfl
             refine take_ (i := 0) (N := some 84) (v := ?_) (a' := ?_) #[true, true, true, true, true, false, false, false, false, false, false, false, false] rfl rfl (take_ofW HT_.out HW_.out (by kernel_rfl)) (fun _ _ _ h => h) (Or.inl ⟨by rfl, ?_⟩) hHeld ?_ ?_
             rotate_left
             ·
              rintro w' ⟨s0, s1, s2, s3⟩
              go_simp
              with_reducible rfl
             rotate_left
             ·
              simp only [Act.put, sa_, sb_, sc_, i64_w, i32_w]
              rfl
             refine take_ (i := 5) (N := some 89) (v := ?_) (a' := ?_) #[true, true, true, true, true, true, false, false, false, false, false, false, false] rfl rfl (take_ofW HT_.out HW_.out (by kernel_rfl)) (fun _ _ _ h => h) (Or.inl ⟨by rfl, ?_⟩) hHeld ?_ ?_
             rotate_left
             ·
              rintro w' ⟨s0, s1, s2, s3⟩
              go_simp
              with_reducible rfl
             rotate_left
             ·
              simp only [Act.put, sa_, sb_, sc_, i64_w, i32_w]
              rfl
             refine join_ (σ := Nat) 2 #[true, true, true, true, true, true, true, true, true, true, true, false, false] (fun s_ => [(90, .tuple #[.agg #[.int .i64 t423, .int .i64 t424], .bool true]), (14, .pointer (some ⟨s_, 0, none⟩)), (83, .tuple #[.agg #[.int .i64 t423, .int .i64 t424], .bool true]), (91, .agg #[.int .i64 t423, .int .i64 t424]), (92, .bool true)]) (fun s_ w' => (w'.cell? ⟨gb421, 0, none⟩ = some (.int .i64 t418) ∧ w'.cell? ⟨gb421, 1, none⟩ = some (.int .i64 t419) ∧ w'.cell? (ad422.add (((ji39)).toNat * 2)) = some (.int .i64 ((rd_T30 t404 (ji39)).f0)) ∧ w'.cell? ⟨(ad422.add (((ji39)).toNat * 2)).block, (ad422.add (((ji39)).toNat * 2)).off + 1, none⟩ = some (.int .i64 ((rd_T30 t404 (ji39)).f1))) ∧ (Kd.R k30 30 w' w.heap.size (fun k_ => k_ ≠ gb411 ∧ k_ ≠ gb415 ∧ k_ ≠ gb421 ∧ k_ ≠ s_) (.slice (some ad422) t404.length co8) t404) ∧ (w'.heap[gb411]? = some (.cells #[.int .i64 t408, .int .i64 t409] 30 (0, 0))) ∧ (w'.heap[gb415]? = some (.cells #[.int .i64 t412, .int .i64 t413] 30 (0, 0))) ∧ (w'.heap[gb421]? = some (.cells #[.int .i64 t418, .int .i64 t419] 30 (0, 0))) ∧ (w'.heap[s_]? = some (.cells #[.int .i64 0, .int .i64 0] 30 (0, 0))) ∧ (w.heap.size ≤ s_) ∧ (w.heap.size ≤ s_) ∧ (gb411 ≠ s_) ∧ (s_ ≠ gb411) ∧ (gb415 ≠ s_) ∧ (s_ ≠ gb415) ∧ (gb421 ≠ s_) ∧ (s_ ≠ gb421) ∧ (Below w.heap.size w w')) ?_ ?_
             rotate_left
             ·
              intro hCont
              refine two_ (i := 6) (j := 10) (Ni := some 90) (Nj := some 14) #[true, true, true, true, true, true, true, false, false, false, false, false, false] #[true, true, true, true, true, true, false, false, false, false, true, false, false] rfl rfl rfl rfl (two_of HT_.out (by kernel_rfl)) (by decide) (by decide) (fun K hK => ?_) (fun K hK => ?_)
              ·
               skip
               refine goes_ Tryd.func15 (by kernel_rfl) rfl #[.agg #[.int .i64 t418, .int .i64 t419], .agg #[.int .i64 ((rd_T30 t404 (ji39)).f0), .int .i64 ((rd_T30 t404 (ji39)).f1)]] (by rfl) rfl rfl (by (try simp only [List.map_toArray, List.map_cons, List.map_nil]); first | done | (simp only [hji39]; rfl) | rfl | (simp only [List.length_drop, List.length_take]; rfl)) ?_
               with_reducible refine (impl_AddRange.calls t418 t419 ((rd_T30 t404 (ji39)).f0) ((rd_T30 t404 (ji39)).f1) t423 t424 true _ ?side1 A42.out).mono ?_
               (case side1 => first | exact HTab.out | exact Tab.below HTab.out (bl_ HB))
               rintro e w55 ⟨rfl, hb⟩
               have HS2_ := (hb.cell (World.block_lt_of_cell? _ _ (hHeld.2.2.1))).trans (hHeld.2.2.1)
               have HS3_ := (hb.cell (World.block_lt_of_cell? _ _ (hHeld.2.2.2))).trans (hHeld.2.2.2)
               refine ⟨_, rfl, ?_⟩
               have n0_ := Aside0.mk (Kd.R_below (kr_ HO_3) hb)
               have n1_ := Aside0.mk (blk_below (g := gb411) (o := .cells #[.int .i64 t408, .int .i64 t409] 30 (0, 0)) (bk_ BK411) hb)
               have n2_ := Aside0.mk (blk_below (g := gb415) (o := .cells #[.int .i64 t412, .int .i64 t413] 30 (0, 0)) (bk_ BK415) hb)
               have n3_ := Aside0.mk (blk_below (g := gb421) (o := .cells #[.int .i64 t418, .int .i64 t419] 30 (0, 0)) (bk_ BK421) hb)
               have n4_ := Aside0.mk (below_step (bl_ HB) hb)
               clear HO_3
               clear BK411
               clear BK415
               clear BK421
               clear HB
               have HO_3 := n0_
               have BK411 := n1_
               have BK415 := n2_
               have BK421 := n3_
               have HB := n4_
               clear n0_ n1_ n2_ n3_ n4_
               (try clear hb)
               (try clear hb2)
               (try clear hk)
               (try clear hi)
               refine hK.out _ _ ⟨(blk_cell BK421.out 0).trans rfl, (blk_cell BK421.out 1).trans rfl, HS2_, HS3_⟩ (fun hHeld => ?_)
               clear hK K
               refine norm_ (a' := ?_) ?_ ?_
               rotate_left
               ·
                show Act.put _ (some 90) _ = _
                simp only [Act.put, sa_, sb_, sc_, i64_w, i32_w]
                rfl
               refine pure_ (i := 7) (N := some 83) (v := ?_) (a' := ?_) #[true, true, true, true, true, true, true, true, false, false, false, false, false] rfl rfl (any_of HT_.out (by kernel_rfl)) (fun _ _ _ h => h) (Or.inl ⟨by rfl, ?_⟩) ?_ ?_
               rotate_left
               ·
                intro w'
                go_simp
                with_reducible rfl
               rotate_left
               ·
                simp only [Act.put, sa_, sb_, sc_, i64_w, i32_w]
                rfl
               refine pure_ (i := 8) (N := some 91) (v := ?_) (a' := ?_) #[true, true, true, true, true, true, true, true, true, false, false, false, false] rfl rfl (any_of HT_.out (by kernel_rfl)) (fun _ _ _ h => h) (Or.inl ⟨by rfl, ?_⟩) ?_ ?_
               rotate_left
               ·
                intro w'
                go_simp
                with_reducible rfl
               rotate_left
               ·
                simp only [Act.put, sa_, sb_, sc_, i64_w, i32_w]
                rfl
               refine pure_ (i := 9) (N := some 92) (v := ?_) (a' := ?_) #[true, true, true, true, true, true, true, true, true, true, false, false, false] rfl rfl (any_of HT_.out (by kernel_rfl)) (fun _ _ _ h => h) (Or.inl ⟨by rfl, ?_⟩) ?_ ?_
               rotate_left
               ·
                intro w'
                go_simp
                with_reducible rfl
               rotate_left
               ·
                simp only [Act.put, sa_, sb_, sc_, i64_w, i32_w]
                rfl
               refine one_ (i := 10) (N := some 14) #[true, true, true, true, true, true, true, true, true, true, true, false, false] rfl rfl (one_of HT_.out (by kernel_rfl)) (by decide) (fun K hK => ?_)
               refine box_step ?hg (N := 14) ?hd (cs := #[.int .i64 0, .int .i64 0]) (t := 30) ?hr ?_; (case hd => rfl); (case hg => rfl); (case hr => first | (go_simp; done) | (go_simp; rfl))
               intro gb426 hg w56 hbox hb
               have HS2_ := (hb.cell (World.block_lt_of_cell? _ _ (hHeld.2.2.1))).trans (hHeld.2.2.1)
               have HS3_ := (hb.cell (World.block_lt_of_cell? _ _ (hHeld.2.2.2))).trans (hHeld.2.2.2)
               have n0_ := Aside0.mk (Kd.R_below (Kd.R_elderB (kr_ HO_3) gb426 (Nat.le_of_eq hg.symm)) hb)
               have n1_ := Aside0.mk (blk_below (g := gb411) (o := .cells #[.int .i64 t408, .int .i64 t409] 30 (0, 0)) (bk_ BK411) hb)
               have n2_ := Aside0.mk (blk_below (g := gb415) (o := .cells #[.int .i64 t412, .int .i64 t413] 30 (0, 0)) (bk_ BK415) hb)
               have n3_ := Aside0.mk (blk_below (g := gb421) (o := .cells #[.int .i64 t418, .int .i64 t419] 30 (0, 0)) (bk_ BK421) hb)
               have n4_ := Aside0.mk (below_step (bl_ HB) hb)
               have n5_ := Aside0.mk (hbox)
               have n6_ := Aside0.mk ((by rw [hg]; exact (below_size (bl_ HB)) : w.heap.size ≤ gb426))
               have n7_ := Aside0.mk ((by rw [hg]; exact (below_size (bl_ HB)) : w.heap.size ≤ gb426))
               have n8_ := Aside0.mk ((by rw [hg]; exact Nat.ne_of_lt (blk_lt (g := gb411) (o := .cells #[.int .i64 t408, .int .i64 t409] 30 (0, 0)) (bk_ BK411)) : gb411 ≠ gb426))
               have n9_ := Aside0.mk ((by rw [hg]; exact Nat.ne_of_gt (blk_lt (g := gb411) (o := .cells #[.int .i64 t408, .int .i64 t409] 30 (0, 0)) (bk_ BK411)) : gb426 ≠ gb411))
               have n10_ := Aside0.mk ((by rw [hg]; exact Nat.ne_of_lt (blk_lt (g := gb415) (o := .cells #[.int .i64 t412, .int .i64 t413] 30 (0, 0)) (bk_ BK415)) : gb415 ≠ gb426))
               have n11_ := Aside0.mk ((by rw [hg]; exact Nat.ne_of_gt (blk_lt (g := gb415) (o := .cells #[.int .i64 t412, .int .i64 t413] 30 (0, 0)) (bk_ BK415)) : gb426 ≠ gb415))
               have n12_ := Aside0.mk ((by rw [hg]; exact Nat.ne_of_lt (blk_lt (g := gb421) (o := .cells #[.int .i64 t418, .int .i64 t419] 30 (0, 0)) (bk_ BK421)) : gb421 ≠ gb426))
               have n13_ := Aside0.mk ((by rw [hg]; exact Nat.ne_of_gt (blk_lt (g := gb421) (o := .cells #[.int .i64 t418, .int .i64 t419] 30 (0, 0)) (bk_ BK421)) : gb426 ≠ gb421))
               clear HO_3
               clear BK411
               clear BK415
               clear BK421
               clear HB
               have HO_3 := n0_
               have BK411 := n1_
               have BK415 := n2_
               have BK421 := n3_
               have HB := n4_
               have BK426 := n5_
               have GW426 := n6_
               have GE426 := n7_
               have NB411_426 := n8_
               have NB426_411 := n9_
               have NB415_426 := n10_
               have NB426_415 := n11_
               have NB421_426 := n12_
               have NB426_421 := n13_
               clear n0_ n1_ n2_ n3_ n4_ n5_ n6_ n7_ n8_ n9_ n10_ n11_ n12_ n13_
               clear hb hbox hg
               refine hK.out _ _ ⟨(blk_cell BK421.out 0).trans rfl, (blk_cell BK421.out 1).trans rfl, HS2_, HS3_⟩ (fun hHeld => ?_)
               clear hK K
               refine norm_ (a' := ?_) ?_ ?_
               rotate_left
               ·
                show Act.put _ (some 14) _ = _
                simp only [Act.put, sa_, sb_, sc_, i64_w, i32_w]
                rfl
               exact norm_ (by simp only [putAll, Act.put, sa_, sb_, sc_]) (hCont (gb426) _ ⟨hHeld, (by (with_reducible repeat (first | apply Kd.R_alloc | apply Kd.R_drewN | apply Kd.R_drew)); exact Kd.R_mono HO_3.out (fun _ hk => ⟨hk.1.1, ⟨hk.1.2.1, ⟨hk.1.2.2, hk.2⟩⟩⟩)), (bk_ BK411), (bk_ BK415), (bk_ BK421), (bk_ BK426), GW426.out, GE426.out, NB411_426.out, NB426_411.out, NB415_426.out, NB426_415.out, NB421_426.out, NB426_421.out, (bl_ HB)⟩)
              ·
               skip
               refine box_step ?hg (N := 14) ?hd (cs := #[.int .i64 0, .int .i64 0]) (t := 30) ?hr ?_; (case hd => rfl); (case hg => rfl); (case hr => first | (go_simp; done) | (go_simp; rfl))
               intro gb426 hg w55 hbox hb
               have HS2_ := (hb.cell (World.block_lt_of_cell? _ _ (hHeld.2.2.1))).trans (hHeld.2.2.1)
               have HS3_ := (hb.cell (World.block_lt_of_cell? _ _ (hHeld.2.2.2))).trans (hHeld.2.2.2)
               have n0_ := Aside0.mk (Kd.R_below (Kd.R_elderB (kr_ HO_3) gb426 (Nat.le_of_eq hg.symm)) hb)
               have n1_ := Aside0.mk (blk_below (g := gb411) (o := .cells #[.int .i64 t408, .int .i64 t409] 30 (0, 0)) (bk_ BK411) hb)
               have n2_ := Aside0.mk (blk_below (g := gb415) (o := .cells #[.int .i64 t412, .int .i64 t413] 30 (0, 0)) (bk_ BK415) hb)
               have n3_ := Aside0.mk (blk_below (g := gb421) (o := .cells #[.int .i64 t418, .int .i64 t419] 30 (0, 0)) (bk_ BK421) hb)
               have n4_ := Aside0.mk (below_step (bl_ HB) hb)
               have n5_ := Aside0.mk (hbox)
               have n6_ := Aside0.mk ((by rw [hg]; exact (below_size (bl_ HB)) : w.heap.size ≤ gb426))
               have n7_ := Aside0.mk ((by rw [hg]; exact (below_size (bl_ HB)) : w.heap.size ≤ gb426))
               have n8_ := Aside0.mk ((by rw [hg]; exact Nat.ne_of_lt (blk_lt (g := gb411) (o := .cells #[.int .i64 t408, .int .i64 t409] 30 (0, 0)) (bk_ BK411)) : gb411 ≠ gb426))
               have n9_ := Aside0.mk ((by rw [hg]; exact Nat.ne_of_gt (blk_lt (g := gb411) (o := .cells #[.int .i64 t408, .int .i64 t409] 30 (0, 0)) (bk_ BK411)) : gb426 ≠ gb411))
               have n10_ := Aside0.mk ((by rw [hg]; exact Nat.ne_of_lt (blk_lt (g := gb415) (o := .cells #[.int .i64 t412, .int .i64 t413] 30 (0, 0)) (bk_ BK415)) : gb415 ≠ gb426))
               have n11_ := Aside0.mk ((by rw [hg]; exact Nat.ne_of_gt (blk_lt (g := gb415) (o := .cells #[.int .i64 t412, .int .i64 t413] 30 (0, 0)) (bk_ BK415)) : gb426 ≠ gb415))
               have n12_ := Aside0.mk ((by rw [hg]; exact Nat.ne_of_lt (blk_lt (g := gb421) (o := .cells #[.int .i64 t418, .int .i64 t419] 30 (0, 0)) (bk_ BK421)) : gb421 ≠ gb426))
               have n13_ := Aside0.mk ((by rw [hg]; exact Nat.ne_of_gt (blk_lt (g := gb421) (o := .cells #[.int .i64 t418, .int .i64 t419] 30 (0, 0)) (bk_ BK421)) : gb426 ≠ gb421))
               clear HO_3
               clear BK411
               clear BK415
               clear BK421
               clear HB
               have HO_3 := n0_
               have BK411 := n1_
               have BK415 := n2_
               have BK421 := n3_
               have HB := n4_
               have BK426 := n5_
               have GW426 := n6_
               have GE426 := n7_
               have NB411_426 := n8_
               have NB426_411 := n9_
               have NB415_426 := n10_
               have NB426_415 := n11_
               have NB421_426 := n12_
               have NB426_421 := n13_
               clear n0_ n1_ n2_ n3_ n4_ n5_ n6_ n7_ n8_ n9_ n10_ n11_ n12_ n13_
               clear hb hbox hg
               refine hK.out _ _ ⟨(blk_cell BK421.out 0).trans rfl, (blk_cell BK421.out 1).trans rfl, HS2_, HS3_⟩ (fun hHeld => ?_)
               clear hK K
               refine norm_ (a' := ?_) ?_ ?_
               rotate_left
               ·
                show Act.put _ (some 14) _ = _
                simp only [Act.put, sa_, sb_, sc_, i64_w, i32_w]
                rfl
               refine one_ (i := 6) (N := some 90) #[true, true, true, true, true, true, true, false, false, false, true, false, false] rfl rfl (one_of HT_.out (by kernel_rfl)) (by decide) (fun K hK => ?_)
               refine goes_ Tryd.func15 (by kernel_rfl) rfl #[.agg #[.int .i64 t418, .int .i64 t419], .agg #[.int .i64 ((rd_T30 t404 (ji39)).f0), .int .i64 ((rd_T30 t404 (ji39)).f1)]] (by rfl) rfl rfl (by (try simp only [List.map_toArray, List.map_cons, List.map_nil]); first | done | (simp only [hji39]; rfl) | rfl | (simp only [List.length_drop, List.length_take]; rfl)) ?_
               with_reducible refine (impl_AddRange.calls t418 t419 ((rd_T30 t404 (ji39)).f0) ((rd_T30 t404 (ji39)).f1) t423 t424 true _ ?side1 A42.out).mono ?_
               (case side1 => first | exact HTab.out | exact Tab.below HTab.out (bl_ HB))
               rintro e w56 ⟨rfl, hb⟩
               have HS2_ := (hb.cell (World.block_lt_of_cell? _ _ (hHeld.2.2.1))).trans (hHeld.2.2.1)
               have HS3_ := (hb.cell (World.block_lt_of_cell? _ _ (hHeld.2.2.2))).trans (hHeld.2.2.2)
               refine ⟨_, rfl, ?_⟩
               have n0_ := Aside0.mk (Kd.R_below (kr_ HO_3) hb)
               have n1_ := Aside0.mk (blk_below (g := gb411) (o := .cells #[.int .i64 t408, .int .i64 t409] 30 (0, 0)) (bk_ BK411) hb)
               have n2_ := Aside0.mk (blk_below (g := gb415) (o := .cells #[.int .i64 t412, .int .i64 t413] 30 (0, 0)) (bk_ BK415) hb)
               have n3_ := Aside0.mk (blk_below (g := gb421) (o := .cells #[.int .i64 t418, .int .i64 t419] 30 (0, 0)) (bk_ BK421) hb)
               have n4_ := Aside0.mk (blk_below (g := gb426) (o := .cells #[.int .i64 0, .int .i64 0] 30 (0, 0)) (bk_ BK426) hb)
               have n5_ := Aside0.mk (below_step (bl_ HB) hb)
               clear HO_3
               clear BK411
               clear BK415
               clear BK421
               clear BK426
               clear HB
               have HO_3 := n0_
               have BK411 := n1_
               have BK415 := n2_
               have BK421 := n3_
               have BK426 := n4_
               have HB := n5_
               clear n0_ n1_ n2_ n3_ n4_ n5_
               (try clear hb)
               (try clear hb2)
               (try clear hk)
               (try clear hi)
               refine hK.out _ _ ⟨(blk_cell BK421.out 0).trans rfl, (blk_cell BK421.out 1).trans rfl, HS2_, HS3_⟩ (fun hHeld => ?_)
               clear hK K
               refine norm_ (a' := ?_) ?_ ?_
               rotate_left
               ·
                show Act.put _ (some 90) _ = _
                simp only [Act.put, sa_, sb_, sc_, i64_w, i32_w]
                rfl
               refine pure_ (i := 7) (N := some 83) (v := ?_) (a' := ?_) #[true, true, true, true, true, true, true, true, false, false, true, false, false] rfl rfl (any_of HT_.out (by kernel_rfl)) (fun _ _ _ h => h) (Or.inl ⟨by rfl, ?_⟩) ?_ ?_
               rotate_left
               ·
                intro w'
                go_simp
                with_reducible rfl
               rotate_left
               ·
                simp only [Act.put, sa_, sb_, sc_, i64_w, i32_w]
                rfl
               refine pure_ (i := 8) (N := some 91) (v := ?_) (a' := ?_) #[true, true, true, true, true, true, true, true, true, false, true, false, false] rfl rfl (any_of HT_.out (by kernel_rfl)) (fun _ _ _ h => h) (Or.inl ⟨by rfl, ?_⟩) ?_ ?_
               rotate_left
               ·
                intro w'
                go_simp
                with_reducible rfl
               rotate_left
               ·
                simp only [Act.put, sa_, sb_, sc_, i64_w, i32_w]
                rfl
               refine pure_ (i := 9) (N := some 92) (v := ?_) (a' := ?_) #[true, true, true, true, true, true, true, true, true, true, true, false, false] rfl rfl (any_of HT_.out (by kernel_rfl)) (fun _ _ _ h => h) (Or.inl ⟨by rfl, ?_⟩) ?_ ?_
               rotate_left
               ·
                intro w'
                go_simp
                with_reducible rfl
               rotate_left
               ·
                simp only [Act.put, sa_, sb_, sc_, i64_w, i32_w]
                rfl
               exact norm_ (by simp only [putAll, Act.put, sa_, sb_, sc_]) (hCont (gb426) _ ⟨hHeld, (by (with_reducible repeat (first | apply Kd.R_alloc | apply Kd.R_drewN | apply Kd.R_drew)); exact Kd.R_mono HO_3.out (fun _ hk => ⟨hk.1.1, ⟨hk.1.2.1, ⟨hk.1.2.2, hk.2⟩⟩⟩)), (bk_ BK411), (bk_ BK415), (bk_ BK421), (bk_ BK426), GW426.out, GE426.out, NB411_426.out, NB426_411.out, NB415_426.out, NB426_415.out, NB421_426.out, NB426_421.out, (bl_ HB)⟩)
             rintro gb426 w57 ⟨hS_, h0_, h1_, h2_, h3_, h4_, h5_, h6_, h7_, h8_, h9_, h10_, h11_, h12_, h13_⟩
             have n0_ : Aside0 (Kd.R k30 30 w57 w.heap.size (fun k_ => k_ ≠ gb411 ∧ k_ ≠ gb415 ∧ k_ ≠ gb421 ∧ k_ ≠ gb426) (.slice (some ad422) t404.length co8) t404) := ⟨h0_⟩
             have n1_ : Aside0 (w57.heap[gb411]? = some (.cells #[.int .i64 t408, .int .i64 t409] 30 (0, 0))) := ⟨h1_⟩
             have n2_ : Aside0 (w57.heap[gb415]? = some (.cells #[.int .i64 t412, .int .i64 t413] 30 (0, 0))) := ⟨h2_⟩
             have n3_ : Aside0 (w57.heap[gb421]? = some (.cells #[.int .i64 t418, .int .i64 t419] 30 (0, 0))) := ⟨h3_⟩
             have n4_ : Aside0 (w57.heap[gb426]? = some (.cells #[.int .i64 0, .int .i64 0] 30 (0, 0))) := ⟨h4_⟩
             have n5_ : Aside0 (w.heap.size ≤ gb426) := ⟨h5_⟩
             have n6_ : Aside0 (w.heap.size ≤ gb426) := ⟨h6_⟩
             have n7_ : Aside0 (gb411 ≠ gb426) := ⟨h7_⟩
             have n8_ : Aside0 (gb426 ≠ gb411) := ⟨h8_⟩
             have n9_ : Aside0 (gb415 ≠ gb426) := ⟨h9_⟩
             have n10_ : Aside0 (gb426 ≠ gb415) := ⟨h10_⟩
             have n11_ : Aside0 (gb421 ≠ gb426) := ⟨h11_⟩
             have n12_ : Aside0 (gb426 ≠ gb421) := ⟨h12_⟩
             have n13_ : Aside0 (Below w.heap.size w w57) := ⟨h13_⟩
             clear HO_3
             clear BK411
             clear BK415
             clear BK421
             clear HB
             clear h0_ h1_ h2_ h3_ h4_ h5_ h6_ h7_ h8_ h9_ h10_ h11_ h12_ h13_
             have HO_3 := n0_
             have BK411 := n1_
             have BK415 := n2_
             have BK421 := n3_
             have BK426 := n4_
             have GW426 := n5_
             have GE426 := n6_
             have NB411_426 := n7_
             have NB426_411 := n8_
             have NB415_426 := n9_
             have NB426_415 := n10_
             have NB421_426 := n11_
             have NB426_421 := n12_
             have HB := n13_
             clear n0_ n1_ n2_ n3_ n4_ n5_ n6_ n7_ n8_ n9_ n10_ n11_ n12_ n13_
             have hHeld : w57.cell? ⟨gb421, 0, none⟩ = some (.int .i64 t418) ∧ w57.cell? ⟨gb421, 1, none⟩ = some (.int .i64 t419) ∧ w57.cell? (ad422.add (((ji39)).toNat * 2)) = some (.int .i64 ((rd_T30 t404 (ji39)).f0)) ∧ w57.cell? ⟨(ad422.add (((ji39)).toNat * 2)).block, (ad422.add (((ji39)).toNat * 2)).off + 1, none⟩ = some (.int .i64 ((rd_T30 t404 (ji39)).f1)) := hS_
             refine norm_ (a' := ?_) ?_ ?_
             rotate_left
             ·
              simp only [putAll, Act.put, sa_, sb_, sc_]
              rfl
             refine one_ (i := 11) (N := none) #[true, true, true, true, true, true, true, true, true, true, true, true, false] rfl rfl (one_of HT_.out (by kernel_rfl)) (by decide) (fun K hK => ?_)
             have hs58 : w57.cell? ⟨gb426, 0, none⟩ = some (.int .i64 0) := (blk_cell BK426.out 0).trans rfl
             have hfs58 := blk_frozen BK426.out 0
             have hns58_0 := NB411_426.out
             have hns58_1 := NB415_426.out
             have hns58_2 := NB421_426.out
             have hms58_0 := NB426_411.out
             have hms58_1 := NB426_415.out
             have hms58_2 := NB426_421.out
             have hs59 : w57.cell? ⟨gb426, 1, none⟩ = some (.int .i64 0) := (blk_cell BK426.out 1).trans rfl
             have hfs59 := blk_frozen BK426.out 1
             have hns59_0 := NB411_426.out
             have hns59_1 := NB415_426.out
             have hns59_2 := NB421_426.out
             have hms59_0 := NB426_411.out
             have hms59_1 := NB426_415.out
             have hms59_2 := NB426_421.out
             refine skip_ (w1 := ?_) (by rfl) rfl ?_ ?_
             rotate_left
             ·
              go_simp
              rfl
             refine hK.out _ _ ⟨((cell_far (p := ⟨gb426, _, none⟩) NB421_426.out _).trans (((cell_far (p := ⟨gb426, _, none⟩) NB421_426.out _).trans (hHeld.1)))), ((cell_far (p := ⟨gb426, _, none⟩) NB421_426.out _).trans (((cell_far (p := ⟨gb426, _, none⟩) NB421_426.out _).trans (hHeld.2.1)))), ((cell_far (p := ⟨gb426, _, none⟩) (by first | exact Kd.own_blk (Kd.R_away HO_3.out (fun _ hk => hk.2.2.2)) | (rw [add_block]; exact Kd.own_blk (Kd.R_away HO_3.out (fun _ hk => hk.2.2.2))) | (show (Addr.add _ _).block ≠ _; rw [add_block]; exact Kd.own_blk (Kd.R_away HO_3.out (fun _ hk => hk.2.2.2))) | (dsimp only; exact Kd.own_blk (Kd.R_away HO_3.out (fun _ hk => hk.2.2.2)))) _).trans (((cell_far (p := ⟨gb426, _, none⟩) (by first | exact Kd.own_blk (Kd.R_away HO_3.out (fun _ hk => hk.2.2.2)) | (rw [add_block]; exact Kd.own_blk (Kd.R_away HO_3.out (fun _ hk => hk.2.2.2))) | (show (Addr.add _ _).block ≠ _; rw [add_block]; exact Kd.own_blk (Kd.R_away HO_3.out (fun _ hk => hk.2.2.2))) | (dsimp only; exact Kd.own_blk (Kd.R_away HO_3.out (fun _ hk => hk.2.2.2)))) _).trans (hHeld.2.2.1)))), ((cell_far (p := ⟨gb426, _, none⟩) (by first | exact Kd.own_blk (Kd.R_away HO_3.out (fun _ hk => hk.2.2.2)) | (rw [add_block]; exact Kd.own_blk (Kd.R_away HO_3.out (fun _ hk => hk.2.2.2))) | (show (Addr.add _ _).block ≠ _; rw [add_block]; exact Kd.own_blk (Kd.R_away HO_3.out (fun _ hk => hk.2.2.2))) | (dsimp only; exact Kd.own_blk (Kd.R_away HO_3.out (fun _ hk => hk.2.2.2)))) _).trans (((cell_far (p := ⟨gb426, _, none⟩) (by first | exact Kd.own_blk (Kd.R_away HO_3.out (fun _ hk => hk.2.2.2)) | (rw [add_block]; exact Kd.own_blk (Kd.R_away HO_3.out (fun _ hk => hk.2.2.2))) | (show (Addr.add _ _).block ≠ _; rw [add_block]; exact Kd.own_blk (Kd.R_away HO_3.out (fun _ hk => hk.2.2.2))) | (dsimp only; exact Kd.own_blk (Kd.R_away HO_3.out (fun _ hk => hk.2.2.2)))) _).trans (hHeld.2.2.2))))⟩ (fun hHeld => ?_)
             clear hK K
             refine pure_ (i := 12) (N := some 15) (v := ?_) (a' := ?_) #[true, true, true, true, true, true, true, true, true, true, true, true, true] rfl rfl (any_of HT_.out (by kernel_rfl)) (fun _ _ _ h => h) (Or.inl ⟨by rfl, ?_⟩) ?_ ?_
             rotate_left
             ·
              intro w'
              go_simp
              with_reducible rfl
             rotate_left
             ·
              simp only [Act.put, sa_, sb_, sc_, i64_w, i32_w]
              rfl
             refine done_ (done_of HT_.out (by kernel_rfl)) ?_
             have hnb60 := NB426_411.out
             have hnc60 := NB411_426.out
             have hnb61 := NB426_415.out
             have hnc61 := NB415_426.out
             have hnb62 := NB426_421.out
             have hnc62 := NB421_426.out
             have hcz63_0 : w57.cell? ⟨gb426, 0, none⟩ = some (.int .i64 0) := (blk_cell BK426.out 0).trans rfl
             have hcz63_1 : w57.cell? ⟨gb426, 1, none⟩ = some (.int .i64 0) := (blk_cell BK426.out 1).trans rfl
             have hfz63_0 := blk_frozen BK426.out 0
             have hfz63_1 := blk_frozen BK426.out 1
             try go_wp2
             go_ret
             exact ⟨by first | rfl | (simp [errW_none, errW_some] <;> rfl) | (simp only [← hji39]; first | rfl | (simp [errW_none, errW_some] <;> rfl)) | (simp [*, errW_none, errW_some] <;> rfl), by repeat (first | (with_reducible first | exact HB.out | apply below_alloc | apply pw_below_drewN | apply below_drew1 | refine below_set ?_ GE411.out | refine below_set ?_ GE415.out | refine below_set ?_ GE421.out | refine below_set ?_ GE426.out) | exact HB.out)⟩
            ·
             rw [if_neg c45] at H
             have c45b0 : decide (t423 ≤ 1000000) = false := decide_eq_false c45
             clear c45
             obtain rfl := Option.some.inj H
             have hnb64 := NB411_415.out
             have hnc64 := NB415_411.out
             have hcz65_0 : wr.cell? ⟨gb411, 0, none⟩ = some (.int .i64 t408) := (blk_cell BK411.out 0).trans rfl
             have hcz65_1 : wr.cell? ⟨gb411, 1, none⟩ = some (.int .i64 t409) := (blk_cell BK411.out 1).trans rfl
             have hfz65_0 := blk_frozen BK411.out 0
             have hfz65_1 := blk_frozen BK411.out 1
             try go_wp2_with (first | ((with_reducible refine gate_callee (f := 14) rfl ?_); refine goesL_ (some 80) rfl rfl Tryd.func14 (by kernel_rfl) rfl #[.agg #[.int .i64 t408, .int .i64 t409], .agg #[.int .i64 x9_2, .int .i64 x10_2]] rfl (by (try simp only [List.map_toArray, List.map_cons, List.map_nil]); first | done | rfl | (simp only [List.length_drop, List.length_take]; rfl)) ?_; (with_reducible refine (impl_MulRange.calls t408 t409 x9_2 x10_2 t418 t419 true _ ?side1 A38.out).mono ?_); (case side1 => first | exact HTab.out | exact Tab.below HTab.out (bl_ HB)); rintro e w66 ⟨rfl, hb⟩; refine ⟨_, rfl, ?_⟩; have n0_ := Aside0.mk (Kd.R_below (kr_ HO_3) hb); have n1_ := Aside0.mk (blk_below (g := gb411) (o := .cells #[.int .i64 t408, .int .i64 t409] 30 (0, 0)) (bk_ BK411) hb); have n2_ := Aside0.mk (blk_below (g := gb415) (o := .cells #[.int .i64 t412, .int .i64 t413] 30 (0, 0)) (bk_ BK415) hb); have n3_ := Aside0.mk (below_step (bl_ HB) hb); clear HO_3; clear BK411; clear BK415; clear HB; have HO_3 := n0_; have BK411 := n1_; have BK415 := n2_; have HB := n3_; clear n0_ n1_ n2_ n3_; (try clear hb); (try clear hb2); (try clear hk); (try clear hi)) | ((with_reducible refine gate_dst (N := 12) rfl ?_); refine box_event ?hg (N := 12) ?hd (cs := #[.int .i64 0, .int .i64 0]) (t := 30) ?hr ?_; (case hd => rfl); (case hg => rfl); (case hr => first | (go_simp; done) | (go_simp; rfl)); intro gb421 hg w67 hbox hb; have n0_ := Aside0.mk (Kd.R_below (Kd.R_elderB (kr_ HO_3) gb421 (Nat.le_of_eq hg.symm)) hb); have n1_ := Aside0.mk (blk_below (g := gb411) (o := .cells #[.int .i64 t408, .int .i64 t409] 30 (0, 0)) (bk_ BK411) hb); have n2_ := Aside0.mk (blk_below (g := gb415) (o := .cells #[.int .i64 t412, .int .i64 t413] 30 (0, 0)) (bk_ BK415) hb); have n3_ := Aside0.mk (below_step (bl_ HB) hb); have n4_ := Aside0.mk (hbox); have n5_ := Aside0.mk ((by rw [hg]; exact (below_size (bl_ HB)) : w.heap.size ≤ gb421)); have n6_ := Aside0.mk ((by rw [hg]; exact (below_size (bl_ HB)) : w.heap.size ≤ gb421)); have n7_ := Aside0.mk ((by rw [hg]; exact Nat.ne_of_lt (blk_lt (g := gb411) (o := .cells #[.int .i64 t408, .int .i64 t409] 30 (0, 0)) (bk_ BK411)) : gb411 ≠ gb421)); have n8_ := Aside0.mk ((by rw [hg]; exact Nat.ne_of_gt (blk_lt (g := gb411) (o := .cells #[.int .i64 t408, .int .i64 t409] 30 (0, 0)) (bk_ BK411)) : gb421 ≠ gb411)); have n9_ := Aside0.mk ((by rw [hg]; exact Nat.ne_of_lt (blk_lt (g := gb415) (o := .cells #[.int .i64 t412, .int .i64 t413] 30 (0, 0)) (bk_ BK415)) : gb415 ≠ gb421)); have n10_ := Aside0.mk ((by rw [hg]; exact Nat.ne_of_gt (blk_lt (g := gb415) (o := .cells #[.int .i64 t412, .int .i64 t413] 30 (0, 0)) (bk_ BK415)) : gb421 ≠ gb415)); clear HO_3; clear BK411; clear BK415; clear HB; have HO_3 := n0_; have BK411 := n1_; have BK415 := n2_; have HB := n3_; have BK421 := n4_; have GW421 := n5_; have GE421 := n6_; have NB411_421 := n7_; have NB421_411 := n8_; have NB415_421 := n9_; have NB421_415 := n10_; clear n0_ n1_ n2_ n3_ n4_ n5_ n6_ n7_ n8_ n9_ n10_; clear hb hbox hg; have hnb68 := NB421_411.out; have hnc68 := NB411_421.out; have hnb69 := NB421_415.out; have hnc69 := NB415_421.out; have hcz70_0 : w67.cell? ⟨gb421, 0, none⟩ = some (.int .i64 0) := (blk_cell BK421.out 0).trans rfl; have hcz70_1 : w67.cell? ⟨gb421, 1, none⟩ = some (.int .i64 0) := (blk_cell BK421.out 1).trans rfl; have hfz70_0 := blk_frozen BK421.out 0; have hfz70_1 := blk_frozen BK421.out 1))
             have n0_ : Aside0 (Kd.R k30 30 ((w67.setCell ⟨gb421, 0, none⟩ (.int .i64 t418)).setCell ⟨gb421, 1, none⟩ (.int .i64 t419)) w.heap.size (fun k_ => k_ ≠ gb411 ∧ k_ ≠ gb415 ∧ k_ ≠ gb421) (.slice Ao8 t404.length co8) t404) := ⟨by (with_reducible repeat (first | apply Kd.R_alloc | apply Kd.R_drewN | apply Kd.R_drew)); exact Kd.R_mono (Kd.R_far (p := ⟨gb421, 1, none⟩) (Kd.R_far (p := ⟨gb421, 0, none⟩) (Kd.R_mono HO_3.out (fun k_ hk => (⟨hk, hk.2⟩ : _ ∧ k_ ≠ gb421))) (fun _ hk => hk.2) (.int .i64 t418)) (fun _ hk => hk.2) (.int .i64 t419)) (fun _ hk => ⟨hk.1.1.1, ⟨hk.1.1.2, hk.1.2⟩⟩)⟩
             have n1_ : Aside0 (((w67.setCell ⟨gb421, 0, none⟩ (.int .i64 t418)).setCell ⟨gb421, 1, none⟩ (.int .i64 t419)).heap[gb411]? = some (.cells #[.int .i64 t408, .int .i64 t409] 30 (0, 0))) := ⟨by (with_reducible repeat (first | refine blk_drewN ?_ _ | refine blk_drew ?_ | refine blk_alloc ?_ _)); refine blk_far ?_ NB411_421.out _; (with_reducible repeat (first | refine blk_drewN ?_ _ | refine blk_drew ?_ | refine blk_alloc ?_ _)); refine blk_far ?_ NB411_421.out _; (with_reducible repeat (first | refine blk_drewN ?_ _ | refine blk_drew ?_ | refine blk_alloc ?_ _)); exact BK411.out⟩
             have n2_ : Aside0 (((w67.setCell ⟨gb421, 0, none⟩ (.int .i64 t418)).setCell ⟨gb421, 1, none⟩ (.int .i64 t419)).heap[gb415]? = some (.cells #[.int .i64 t412, .int .i64 t413] 30 (0, 0))) := ⟨by (with_reducible repeat (first | refine blk_drewN ?_ _ | refine blk_drew ?_ | refine blk_alloc ?_ _)); refine blk_far ?_ NB415_421.out _; (with_reducible repeat (first | refine blk_drewN ?_ _ | refine blk_drew ?_ | refine blk_alloc ?_ _)); refine blk_far ?_ NB415_421.out _; (with_reducible repeat (first | refine blk_drewN ?_ _ | refine blk_drew ?_ | refine blk_alloc ?_ _)); exact BK415.out⟩
             have n3_ : Aside0 (((w67.setCell ⟨gb421, 0, none⟩ (.int .i64 t418)).setCell ⟨gb421, 1, none⟩ (.int .i64 t419)).heap[gb421]? = some (.cells #[.int .i64 t418, .int .i64 t419] 30 (0, 0))) := ⟨by (with_reducible repeat (first | refine blk_drewN ?_ _ | refine blk_drew ?_ | refine blk_alloc ?_ _)); refine blk_put (cs := #[.int .i64 t418, .int .i64 0]) ?_ 1 _ rfl; (with_reducible repeat (first | refine blk_drewN ?_ _ | refine blk_drew ?_ | refine blk_alloc ?_ _)); refine blk_put (cs := #[.int .i64 0, .int .i64 0]) ?_ 0 _ rfl; (with_reducible repeat (first | refine blk_drewN ?_ _ | refine blk_drew ?_ | refine blk_alloc ?_ _)); exact BK421.out⟩
             have n4_ : Aside0 (Below w.heap.size w ((w67.setCell ⟨gb421, 0, none⟩ (.int .i64 t418)).setCell ⟨gb421, 1, none⟩ (.int .i64 t419))) := ⟨by repeat (first | (with_reducible first | exact HB.out | apply below_alloc | apply pw_below_drewN | apply below_drew1 | refine below_set ?_ GE411.out | refine below_set ?_ GE415.out | refine below_set ?_ GE421.out) | exact HB.out)⟩
             (try clear HO_3)
             (try clear BK411)
             (try clear BK415)
             (try clear BK421)
             (try clear HB)
             generalize ((w67.setCell ⟨gb421, 0, none⟩ (.int .i64 t418)).setCell ⟨gb421, 1, none⟩ (.int .i64 t419)) = w71 at n0_ n1_ n2_ n3_ n4_ ⊢
             have HO_3 := n0_
             have BK411 := n1_
             have BK415 := n2_
             have BK421 := n3_
             have HB := n4_
             clear n0_ n1_ n2_ n3_ n4_
             have n0_ := Aside0.mk (Kd.R_drew HO_3.out)
             have n1_ := Aside0.mk (blk_drew BK411.out)
             have n2_ := Aside0.mk (blk_drew BK415.out)
             have n3_ := Aside0.mk (blk_drew BK421.out)
             have n4_ := Aside0.mk (below_drew1 HB.out)
             clear HO_3
             clear BK411
             clear BK415
             clear BK421
             clear HB
             have HO_3 := n0_
             have BK411 := n1_
             have BK415 := n2_
             have BK421 := n3_
             have HB := n4_
             clear n0_ n1_ n2_ n3_ n4_
             have p422 : 0 ≤ ((ji39) : Int) := of_decide_eq_true (by first | (with_reducible assumption) | assumption)
             have q422 : (ji39) < (t404.length : Int) := of_decide_eq_true (by first | (with_reducible assumption) | assumption)
             obtain ⟨ad422, e422, hx422_0, hx422_1⟩ := at_T30 (Kd.R_reads' HO_3.out).2.2 (ji39) p422 q422
             cases e422
             replace p422 := eq_true p422
             replace q422 := eq_true q422
             refine start_ (n := 13) (S := fun w' => w'.cell? ⟨gb421, 0, none⟩ = some (.int .i64 t418) ∧ w'.cell? ⟨gb421, 1, none⟩ = some (.int .i64 t419) ∧ w'.cell? (ad422.add (((ji39)).toNat * 2)) = some (.int .i64 ((rd_T30 t404 (ji39)).f0)) ∧ w'.cell? ⟨(ad422.add (((ji39)).toNat * 2)).block, (ad422.add (((ji39)).toNat * 2)).off + 1, none⟩ = some (.int .i64 ((rd_T30 t404 (ji39)).f1))) (ds := []) #[false, false, false, false, false, false, false, false, false, false, false, false, false] (by kernel_rfl) rfl rfl ⟨(blk_cell BK421.out 0).trans rfl, (blk_cell BK421.out 1).trans rfl, hx422_0, hx422_1⟩ (fun hHeld => ?_); refine with_tabW laws_FnSwapRate.tab16 laws_FnSwapRate.bits16 (fun HT_ HW_ => ?_)
             generalize w71.drew = w72 at HO_3 BK411 BK415 BK421 HB hx422_0 hx422_1 hHeld ⊢
             refine pure_ (i := 1) (N := some 85) (v := ?_) (a' := ?_) #[false, true, false, false, false, false, false, false, false, false, false, false, false] rfl rfl (any_of HT_.out (by kernel_rfl)) (fun _ _ _ h => h) (Or.inl ⟨by rfl, ?_⟩) ?_ ?_
             rotate_left
             ·
              intro w'
              go_simp
              with_reducible rfl
             rotate_left
             ·
              simp only [Act.put, sa_, sb_, sc_, i64_w, i32_w]
              rfl
             refine pure_ (i := 2) (N := some 86) (v := ?_) (a' := ?_) #[false, true, true, false, false, false, false, false, false, false, false, false, false] rfl rfl (any_of HT_.out (by kernel_rfl)) (fun _ _ _ h => h) (Or.inl ⟨by rfl, ?_⟩) ?_ ?_
             rotate_left
             ·
              intro w'
              go_simp
              with_reducible rfl
             rotate_left
             ·
              simp only [Act.put, sa_, sb_, sc_, i64_w, i32_w]
              rfl
             refine pure_ (i := 3) (N := some 87) (v := ?_) (a' := ?_) #[false, true, true, true, false, false, false, false, false, false, false, false, false] rfl rfl (any_of HT_.out (by kernel_rfl)) (fun _ _ _ h => h) (Or.inl ⟨by rfl, ?_⟩) ?_ ?_
             rotate_left
             ·
              intro w'
              go_simp
              with_reducible rfl
             rotate_left
             ·
              simp only [Act.put, sa_, sb_, sc_, i64_w, i32_w]
              rfl
             refine pure_ (i := 4) (N := some 88) (v := ?_) (a' := ?_) #[false, true, true, true, true, false, false, false, false, false, false, false, false] rfl rfl (any_of HT_.out (by kernel_rfl)) (fun _ _ _ h => h) (Or.inl ⟨by rfl, ?_⟩) ?_ ?_
             rotate_left
             ·
              intro w'
              go_simp
              with_reducible rfl
             rotate_left
             ·
              simp only [Act.put, sa_, sb_, sc_, i64_w, i32_w]
              rfl
             refine take_ (i := 0) (N := some 84) (v := ?_) (a' := ?_) #[true, true, true, true, true, false, false, false, false, false, false, false, false] rfl rfl (take_ofW HT_.out HW_.out (by kernel_rfl)) (fun _ _ _ h => h) (Or.inl ⟨by rfl, ?_⟩) hHeld ?_ ?_
             rotate_left
             ·
              rintro w' ⟨s0, s1, s2, s3⟩
              go_simp
              with_reducible rfl
             rotate_left
             ·
              simp only [Act.put, sa_, sb_, sc_, i64_w, i32_w]
              rfl
             refine take_ (i := 5) (N := some 89) (v := ?_) (a' := ?_) #[true, true, true, true, true, true, false, false, false, false, false, false, false] rfl rfl (take_ofW HT_.out HW_.out (by kernel_rfl)) (fun _ _ _ h => h) (Or.inl ⟨by rfl, ?_⟩) hHeld ?_ ?_
             rotate_left
             ·
              rintro w' ⟨s0, s1, s2, s3⟩
              go_simp
              with_reducible rfl
             rotate_left
             ·
              simp only [Act.put, sa_, sb_, sc_, i64_w, i32_w]
              rfl
             refine join_ (σ := Nat) 2 #[true, true, true, true, true, true, true, true, true, true, true, false, false] (fun s_ => [(90, .tuple #[.agg #[.int .i64 t423, .int .i64 t424], .bool true]), (14, .pointer (some ⟨s_, 0, none⟩)), (83, .tuple #[.agg #[.int .i64 t423, .int .i64 t424], .bool true]), (91, .agg #[.int .i64 t423, .int .i64 t424]), (92, .bool true)]) (fun s_ w' => (w'.cell? ⟨gb421, 0, none⟩ = some (.int .i64 t418) ∧ w'.cell? ⟨gb421, 1, none⟩ = some (.int .i64 t419) ∧ w'.cell? (ad422.add (((ji39)).toNat * 2)) = some (.int .i64 ((rd_T30 t404 (ji39)).f0)) ∧ w'.cell? ⟨(ad422.add (((ji39)).toNat * 2)).block, (ad422.add (((ji39)).toNat * 2)).off + 1, none⟩ = some (.int .i64 ((rd_T30 t404 (ji39)).f1))) ∧ (Kd.R k30 30 w' w.heap.size (fun k_ => k_ ≠ gb411 ∧ k_ ≠ gb415 ∧ k_ ≠ gb421 ∧ k_ ≠ s_) (.slice (some ad422) t404.length co8) t404) ∧ (w'.heap[gb411]? = some (.cells #[.int .i64 t408, .int .i64 t409] 30 (0, 0))) ∧ (w'.heap[gb415]? = some (.cells #[.int .i64 t412, .int .i64 t413] 30 (0, 0))) ∧ (w'.heap[gb421]? = some (.cells #[.int .i64 t418, .int .i64 t419] 30 (0, 0))) ∧ (w'.heap[s_]? = some (.cells #[.int .i64 0, .int .i64 0] 30 (0, 0))) ∧ (w.heap.size ≤ s_) ∧ (w.heap.size ≤ s_) ∧ (gb411 ≠ s_) ∧ (s_ ≠ gb411) ∧ (gb415 ≠ s_) ∧ (s_ ≠ gb415) ∧ (gb421 ≠ s_) ∧ (s_ ≠ gb421) ∧ (Below w.heap.size w w')) ?_ ?_
             rotate_left
             ·
              intro hCont
              refine two_ (i := 6) (j := 10) (Ni := some 90) (Nj := some 14) #[true, true, true, true, true, true, true, false, false, false, false, false, false] #[true, true, true, true, true, true, false, false, false, false, true, false, false] rfl rfl rfl rfl (two_of HT_.out (by kernel_rfl)) (by decide) (by decide) (fun K hK => ?_) (fun K hK => ?_)
              ·
               skip
               refine goes_ Tryd.func15 (by kernel_rfl) rfl #[.agg #[.int .i64 t418, .int .i64 t419], .agg #[.int .i64 ((rd_T30 t404 (ji39)).f0), .int .i64 ((rd_T30 t404 (ji39)).f1)]] (by rfl) rfl rfl (by (try simp only [List.map_toArray, List.map_cons, List.map_nil]); first | done | (simp only [hji39]; rfl) | rfl | (simp only [List.length_drop, List.length_take]; rfl)) ?_
               with_reducible refine (impl_AddRange.calls t418 t419 ((rd_T30 t404 (ji39)).f0) ((rd_T30 t404 (ji39)).f1) t423 t424 true _ ?side1 A42.out).mono ?_
               (case side1 => first | exact HTab.out | exact Tab.below HTab.out (bl_ HB))
               rintro e w73 ⟨rfl, hb⟩
               have HS2_ := (hb.cell (World.block_lt_of_cell? _ _ (hHeld.2.2.1))).trans (hHeld.2.2.1)
               have HS3_ := (hb.cell (World.block_lt_of_cell? _ _ (hHeld.2.2.2))).trans (hHeld.2.2.2)
               refine ⟨_, rfl, ?_⟩
               have n0_ := Aside0.mk (Kd.R_below (kr_ HO_3) hb)
               have n1_ := Aside0.mk (blk_below (g := gb411) (o := .cells #[.int .i64 t408, .int .i64 t409] 30 (0, 0)) (bk_ BK411) hb)
               have n2_ := Aside0.mk (blk_below (g := gb415) (o := .cells #[.int .i64 t412, .int .i64 t413] 30 (0, 0)) (bk_ BK415) hb)
               have n3_ := Aside0.mk (blk_below (g := gb421) (o := .cells #[.int .i64 t418, .int .i64 t419] 30 (0, 0)) (bk_ BK421) hb)
               have n4_ := Aside0.mk (below_step (bl_ HB) hb)
               clear HO_3
               clear BK411
               clear BK415
               clear BK421
               clear HB
               have HO_3 := n0_
               have BK411 := n1_
               have BK415 := n2_
               have BK421 := n3_
               have HB := n4_
               clear n0_ n1_ n2_ n3_ n4_
               (try clear hb)
               (try clear hb2)
               (try clear hk)
               (try clear hi)
               refine hK.out _ _ ⟨(blk_cell BK421.out 0).trans rfl, (blk_cell BK421.out 1).trans rfl, HS2_, HS3_⟩ (fun hHeld => ?_)
               clear hK K
               refine norm_ (a' := ?_) ?_ ?_
               rotate_left
               ·
                show Act.put _ (some 90) _ = _
                simp only [Act.put, sa_, sb_, sc_, i64_w, i32_w]
                rfl
               refine pure_ (i := 7) (N := some 83) (v := ?_) (a' := ?_) #[true, true, true, true, true, true, true, true, false, false, false, false, false] rfl rfl (any_of HT_.out (by kernel_rfl)) (fun _ _ _ h => h) (Or.inl ⟨by rfl, ?_⟩) ?_ ?_
               rotate_left
               ·
                intro w'
                go_simp
                with_reducible rfl
               rotate_left
               ·
                simp only [Act.put, sa_, sb_, sc_, i64_w, i32_w]
                rfl
               refine pure_ (i := 8) (N := some 91) (v := ?_) (a' := ?_) #[true, true, true, true, true, true, true, true, true, false, false, false, false] rfl rfl (any_of HT_.out (by kernel_rfl)) (fun _ _ _ h => h) (Or.inl ⟨by rfl, ?_⟩) ?_ ?_
               rotate_left
               ·
                intro w'
                go_simp
                with_reducible rfl
               rotate_left
               ·
                simp only [Act.put, sa_, sb_, sc_, i64_w, i32_w]
                rfl
               refine pure_ (i := 9) (N := some 92) (v := ?_) (a' := ?_) #[true, true, true, true, true, true, true, true, true, true, false, false, false] rfl rfl (any_of HT_.out (by kernel_rfl)) (fun _ _ _ h => h) (Or.inl ⟨by rfl, ?_⟩) ?_ ?_
               rotate_left
               ·
                intro w'
                go_simp
                with_reducible rfl
               rotate_left
               ·
                simp only [Act.put, sa_, sb_, sc_, i64_w, i32_w]
                rfl
               refine one_ (i := 10) (N := some 14) #[true, true, true, true, true, true, true, true, true, true, true, false, false] rfl rfl (one_of HT_.out (by kernel_rfl)) (by decide) (fun K hK => ?_)
               refine box_step ?hg (N := 14) ?hd (cs := #[.int .i64 0, .int .i64 0]) (t := 30) ?hr ?_; (case hd => rfl); (case hg => rfl); (case hr => first | (go_simp; done) | (go_simp; rfl))
               intro gb426 hg w74 hbox hb
               have HS2_ := (hb.cell (World.block_lt_of_cell? _ _ (hHeld.2.2.1))).trans (hHeld.2.2.1)
               have HS3_ := (hb.cell (World.block_lt_of_cell? _ _ (hHeld.2.2.2))).trans (hHeld.2.2.2)
               have n0_ := Aside0.mk (Kd.R_below (Kd.R_elderB (kr_ HO_3) gb426 (Nat.le_of_eq hg.symm)) hb)
               have n1_ := Aside0.mk (blk_below (g := gb411) (o := .cells #[.int .i64 t408, .int .i64 t409] 30 (0, 0)) (bk_ BK411) hb)
               have n2_ := Aside0.mk (blk_below (g := gb415) (o := .cells #[.int .i64 t412, .int .i64 t413] 30 (0, 0)) (bk_ BK415) hb)
               have n3_ := Aside0.mk (blk_below (g := gb421) (o := .cells #[.int .i64 t418, .int .i64 t419] 30 (0, 0)) (bk_ BK421) hb)
               have n4_ := Aside0.mk (below_step (bl_ HB) hb)
               have n5_ := Aside0.mk (hbox)
               have n6_ := Aside0.mk ((by rw [hg]; exact (below_size (bl_ HB)) : w.heap.size ≤ gb426))
               have n7_ := Aside0.mk ((by rw [hg]; exact (below_size (bl_ HB)) : w.heap.size ≤ gb426))
               have n8_ := Aside0.mk ((by rw [hg]; exact Nat.ne_of_lt (blk_lt (g := gb411) (o := .cells #[.int .i64 t408, .int .i64 t409] 30 (0, 0)) (bk_ BK411)) : gb411 ≠ gb426))
               have n9_ := Aside0.mk ((by rw [hg]; exact Nat.ne_of_gt (blk_lt (g := gb411) (o := .cells #[.int .i64 t408, .int .i64 t409] 30 (0, 0)) (bk_ BK411)) : gb426 ≠ gb411))
               have n10_ := Aside0.mk ((by rw [hg]; exact Nat.ne_of_lt (blk_lt (g := gb415) (o := .cells #[.int .i64 t412, .int .i64 t413] 30 (0, 0)) (bk_ BK415)) : gb415 ≠ gb426))
               have n11_ := Aside0.mk ((by rw [hg]; exact Nat.ne_of_gt (blk_lt (g := gb415) (o := .cells #[.int .i64 t412, .int .i64 t413] 30 (0, 0)) (bk_ BK415)) : gb426 ≠ gb415))
               have n12_ := Aside0.mk ((by rw [hg]; exact Nat.ne_of_lt (blk_lt (g := gb421) (o := .cells #[.int .i64 t418, .int .i64 t419] 30 (0, 0)) (bk_ BK421)) : gb421 ≠ gb426))
               have n13_ := Aside0.mk ((by rw [hg]; exact Nat.ne_of_gt (blk_lt (g := gb421) (o := .cells #[.int .i64 t418, .int .i64 t419] 30 (0, 0)) (bk_ BK421)) : gb426 ≠ gb421))
               clear HO_3
               clear BK411
               clear BK415
               clear BK421
               clear HB
               have HO_3 := n0_
               have BK411 := n1_
               have BK415 := n2_
               have BK421 := n3_
               have HB := n4_
               have BK426 := n5_
               have GW426 := n6_
               have GE426 := n7_
               have NB411_426 := n8_
               have NB426_411 := n9_
               have NB415_426 := n10_
               have NB426_415 := n11_
               have NB421_426 := n12_
               have NB426_421 := n13_
               clear n0_ n1_ n2_ n3_ n4_ n5_ n6_ n7_ n8_ n9_ n10_ n11_ n12_ n13_
               clear hb hbox hg
               refine hK.out _ _ ⟨(blk_cell BK421.out 0).trans rfl, (blk_cell BK421.out 1).trans rfl, HS2_, HS3_⟩ (fun hHeld => ?_)
               clear hK K
               refine norm_ (a' := ?_) ?_ ?_
               rotate_left
               ·
                show Act.put _ (some 14) _ = _
                simp only [Act.put, sa_, sb_, sc_, i64_w, i32_w]
                rfl
               exact norm_ (by simp only [putAll, Act.put, sa_, sb_, sc_]) (hCont (gb426) _ ⟨hHeld, (by (with_reducible repeat (first | apply Kd.R_alloc | apply Kd.R_drewN | apply Kd.R_drew)); exact Kd.R_mono HO_3.out (fun _ hk => ⟨hk.1.1, ⟨hk.1.2.1, ⟨hk.1.2.2, hk.2⟩⟩⟩)), (bk_ BK411), (bk_ BK415), (bk_ BK421), (bk_ BK426), GW426.out, GE426.out, NB411_426.out, NB426_411.out, NB415_426.out, NB426_415.out, NB421_426.out, NB426_421.out, (bl_ HB)⟩)
              ·
               skip
               refine box_step ?hg (N := 14) ?hd (cs := #[.int .i64 0, .int .i64 0]) (t := 30) ?hr ?_; (case hd => rfl); (case hg => rfl); (case hr => first | (go_simp; done) | (go_simp; rfl))
               intro gb426 hg w73 hbox hb
               have HS2_ := (hb.cell (World.block_lt_of_cell? _ _ (hHeld.2.2.1))).trans (hHeld.2.2.1)
               have HS3_ := (hb.cell (World.block_lt_of_cell? _ _ (hHeld.2.2.2))).trans (hHeld.2.2.2)
               have n0_ := Aside0.mk (Kd.R_below (Kd.R_elderB (kr_ HO_3) gb426 (Nat.le_of_eq hg.symm)) hb)
               have n1_ := Aside0.mk (blk_below (g := gb411) (o := .cells #[.int .i64 t408, .int .i64 t409] 30 (0, 0)) (bk_ BK411) hb)
               have n2_ := Aside0.mk (blk_below (g := gb415) (o := .cells #[.int .i64 t412, .int .i64 t413] 30 (0, 0)) (bk_ BK415) hb)
               have n3_ := Aside0.mk (blk_below (g := gb421) (o := .cells #[.int .i64 t418, .int .i64 t419] 30 (0, 0)) (bk_ BK421) hb)
               have n4_ := Aside0.mk (below_step (bl_ HB) hb)
               have n5_ := Aside0.mk (hbox)
               have n6_ := Aside0.mk ((by rw [hg]; exact (below_size (bl_ HB)) : w.heap.size ≤ gb426))
               have n7_ := Aside0.mk ((by rw [hg]; exact (below_size (bl_ HB)) : w.heap.size ≤ gb426))
               have n8_ := Aside0.mk ((by rw [hg]; exact Nat.ne_of_lt (blk_lt (g := gb411) (o := .cells #[.int .i64 t408, .int .i64 t409] 30 (0, 0)) (bk_ BK411)) : gb411 ≠ gb426))
               have n9_ := Aside0.mk ((by rw [hg]; exact Nat.ne_of_gt (blk_lt (g := gb411) (o := .cells #[.int .i64 t408, .int .i64 t409] 30 (0, 0)) (bk_ BK411)) : gb426 ≠ gb411))
               have n10_ := Aside0.mk ((by rw [hg]; exact Nat.ne_of_lt (blk_lt (g := gb415) (o := .cells #[.int .i64 t412, .int .i64 t413] 30 (0, 0)) (bk_ BK415)) : gb415 ≠ gb426))
               have n11_ := Aside0.mk ((by rw [hg]; exact Nat.ne_of_gt (blk_lt (g := gb415) (o := .cells #[.int .i64 t412, .int .i64 t413] 30 (0, 0)) (bk_ BK415)) : gb426 ≠ gb415))
               have n12_ := Aside0.mk ((by rw [hg]; exact Nat.ne_of_lt (blk_lt (g := gb421) (o := .cells #[.int .i64 t418, .int .i64 t419] 30 (0, 0)) (bk_ BK421)) : gb421 ≠ gb426))
               have n13_ := Aside0.mk ((by rw [hg]; exact Nat.ne_of_gt (blk_lt (g := gb421) (o := .cells #[.int .i64 t418, .int .i64 t419] 30 (0, 0)) (bk_ BK421)) : gb426 ≠ gb421))
               clear HO_3
               clear BK411
               clear BK415
               clear BK421
               clear HB
               have HO_3 := n0_
               have BK411 := n1_
               have BK415 := n2_
               have BK421 := n3_
               have HB := n4_
               have BK426 := n5_
               have GW426 := n6_
               have GE426 := n7_
               have NB411_426 := n8_
               have NB426_411 := n9_
               have NB415_426 := n10_
               have NB426_415 := n11_
               have NB421_426 := n12_
               have NB426_421 := n13_
               clear n0_ n1_ n2_ n3_ n4_ n5_ n6_ n7_ n8_ n9_ n10_ n11_ n12_ n13_
               clear hb hbox hg
               refine hK.out _ _ ⟨(blk_cell BK421.out 0).trans rfl, (blk_cell BK421.out 1).trans rfl, HS2_, HS3_⟩ (fun hHeld => ?_)
               clear hK K
               refine norm_ (a' := ?_) ?_ ?_
               rotate_left
               ·
                show Act.put _ (some 14) _ = _
                simp only [Act.put, sa_, sb_, sc_, i64_w, i32_w]
                rfl
               refine one_ (i := 6) (N := some 90) #[true, true, true, true, true, true, true, false, false, false, true, false, false] rfl rfl (one_of HT_.out (by kernel_rfl)) (by decide) (fun K hK => ?_)
               refine goes_ Tryd.func15 (by kernel_rfl) rfl #[.agg #[.int .i64 t418, .int .i64 t419], .agg #[.int .i64 ((rd_T30 t404 (ji39)).f0), .int .i64 ((rd_T30 t404 (ji39)).f1)]] (by rfl) rfl rfl (by (try simp only [List.map_toArray, List.map_cons, List.map_nil]); first | done | (simp only [hji39]; rfl) | rfl | (simp only [List.length_drop, List.length_take]; rfl)) ?_
               with_reducible refine (impl_AddRange.calls t418 t419 ((rd_T30 t404 (ji39)).f0) ((rd_T30 t404 (ji39)).f1) t423 t424 true _ ?side1 A42.out).mono ?_
               (case side1 => first | exact HTab.out | exact Tab.below HTab.out (bl_ HB))
               rintro e w74 ⟨rfl, hb⟩
               have HS2_ := (hb.cell (World.block_lt_of_cell? _ _ (hHeld.2.2.1))).trans (hHeld.2.2.1)
               have HS3_ := (hb.cell (World.block_lt_of_cell? _ _ (hHeld.2.2.2))).trans (hHeld.2.2.2)
               refine ⟨_, rfl, ?_⟩
               have n0_ := Aside0.mk (Kd.R_below (kr_ HO_3) hb)
               have n1_ := Aside0.mk (blk_below (g := gb411) (o := .cells #[.int .i64 t408, .int .i64 t409] 30 (0, 0)) (bk_ BK411) hb)
               have n2_ := Aside0.mk (blk_below (g := gb415) (o := .cells #[.int .i64 t412, .int .i64 t413] 30 (0, 0)) (bk_ BK415) hb)
               have n3_ := Aside0.mk (blk_below (g := gb421) (o := .cells #[.int .i64 t418, .int .i64 t419] 30 (0, 0)) (bk_ BK421) hb)
               have n4_ := Aside0.mk (blk_below (g := gb426) (o := .cells #[.int .i64 0, .int .i64 0] 30 (0, 0)) (bk_ BK426) hb)
               have n5_ := Aside0.mk (below_step (bl_ HB) hb)
               clear HO_3
               clear BK411
               clear BK415
               clear BK421
               clear BK426
               clear HB
               have HO_3 := n0_
               have BK411 := n1_
               have BK415 := n2_
               have BK421 := n3_
               have BK426 := n4_
               have HB := n5_
               clear n0_ n1_ n2_ n3_ n4_ n5_
               (try clear hb)
               (try clear hb2)
               (try clear hk)
               (try clear hi)
               refine hK.out _ _ ⟨(blk_cell BK421.out 0).trans rfl, (blk_cell BK421.out 1).trans rfl, HS2_, HS3_⟩ (fun hHeld => ?_)
               clear hK K
               refine norm_ (a' := ?_) ?_ ?_
               rotate_left
               ·
                show Act.put _ (some 90) _ = _
                simp only [Act.put, sa_, sb_, sc_, i64_w, i32_w]
                rfl
               refine pure_ (i := 7) (N := some 83) (v := ?_) (a' := ?_) #[true, true, true, true, true, true, true, true, false, false, true, false, false] rfl rfl (any_of HT_.out (by kernel_rfl)) (fun _ _ _ h => h) (Or.inl ⟨by rfl, ?_⟩) ?_ ?_
               rotate_left
               ·
                intro w'
                go_simp
                with_reducible rfl
               rotate_left
               ·
                simp only [Act.put, sa_, sb_, sc_, i64_w, i32_w]
                rfl
               refine pure_ (i := 8) (N := some 91) (v := ?_) (a' := ?_) #[true, true, true, true, true, true, true, true, true, false, true, false, false] rfl rfl (any_of HT_.out (by kernel_rfl)) (fun _ _ _ h => h) (Or.inl ⟨by rfl, ?_⟩) ?_ ?_
               rotate_left
               ·
                intro w'
                go_simp
                with_reducible rfl
               rotate_left
               ·
                simp only [Act.put, sa_, sb_, sc_, i64_w, i32_w]
                rfl
               refine pure_ (i := 9) (N := some 92) (v := ?_) (a' := ?_) #[true, true, true, true, true, true, true, true, true, true, true, false, false] rfl rfl (any_of HT_.out (by kernel_rfl)) (fun _ _ _ h => h) (Or.inl ⟨by rfl, ?_⟩) ?_ ?_
               rotate_left
               ·
                intro w'
                go_simp
                with_reducible rfl
               rotate_left
               ·
                simp only [Act.put, sa_, sb_, sc_, i64_w, i32_w]
                rfl
               exact norm_ (by simp only [putAll, Act.put, sa_, sb_, sc_]) (hCont (gb426) _ ⟨hHeld, (by (with_reducible repeat (first | apply Kd.R_alloc | apply Kd.R_drewN | apply Kd.R_drew)); exact Kd.R_mono HO_3.out (fun _ hk => ⟨hk.1.1, ⟨hk.1.2.1, ⟨hk.1.2.2, hk.2⟩⟩⟩)), (bk_ BK411), (bk_ BK415), (bk_ BK421), (bk_ BK426), GW426.out, GE426.out, NB411_426.out, NB426_411.out, NB415_426.out, NB426_415.out, NB421_426.out, NB426_421.out, (bl_ HB)⟩)
             rintro gb426 w75 ⟨hS_, h0_, h1_, h2_, h3_, h4_, h5_, h6_, h7_, h8_, h9_, h10_, h11_, h12_, h13_⟩
             have n0_ : Aside0 (Kd.R k30 30 w75 w.heap.size (fun k_ => k_ ≠ gb411 ∧ k_ ≠ gb415 ∧ k_ ≠ gb421 ∧ k_ ≠ gb426) (.slice (some ad422) t404.length co8) t404) := ⟨h0_⟩
             have n1_ : Aside0 (w75.heap[gb411]? = some (.cells #[.int .i64 t408, .int .i64 t409] 30 (0, 0))) := ⟨h1_⟩
             have n2_ : Aside0 (w75.heap[gb415]? = some (.cells #[.int .i64 t412, .int .i64 t413] 30 (0, 0))) := ⟨h2_⟩
             have n3_ : Aside0 (w75.heap[gb421]? = some (.cells #[.int .i64 t418, .int .i64 t419] 30 (0, 0))) := ⟨h3_⟩
             have n4_ : Aside0 (w75.heap[gb426]? = some (.cells #[.int .i64 0, .int .i64 0] 30 (0, 0))) := ⟨h4_⟩
             have n5_ : Aside0 (w.heap.size ≤ gb426) := ⟨h5_⟩
             have n6_ : Aside0 (w.heap.size ≤ gb426) := ⟨h6_⟩
             have n7_ : Aside0 (gb411 ≠ gb426) := ⟨h7_⟩
             have n8_ : Aside0 (gb426 ≠ gb411) := ⟨h8_⟩
             have n9_ : Aside0 (gb415 ≠ gb426) := ⟨h9_⟩
             have n10_ : Aside0 (gb426 ≠ gb415) := ⟨h10_⟩
             have n11_ : Aside0 (gb421 ≠ gb426) := ⟨h11_⟩
             have n12_ : Aside0 (gb426 ≠ gb421) := ⟨h12_⟩
             have n13_ : Aside0 (Below w.heap.size w w75) := ⟨h13_⟩
             clear HO_3
             clear BK411
             clear BK415
             clear BK421
             clear HB
             clear h0_ h1_ h2_ h3_ h4_ h5_ h6_ h7_ h8_ h9_ h10_ h11_ h12_ h13_
             have HO_3 := n0_
             have BK411 := n1_
             have BK415 := n2_
             have BK421 := n3_
             have BK426 := n4_
             have GW426 := n5_
             have GE426 := n6_
             have NB411_426 := n7_
             have NB426_411 := n8_
             have NB415_426 := n9_
             have NB426_415 := n10_
             have NB421_426 := n11_
             have NB426_421 := n12_
             have HB := n13_
             clear n0_ n1_ n2_ n3_ n4_ n5_ n6_ n7_ n8_ n9_ n10_ n11_ n12_ n13_
             have hHeld : w75.cell? ⟨gb421, 0, none⟩ = some (.int .i64 t418) ∧ w75.cell? ⟨gb421, 1, none⟩ = some (.int .i64 t419) ∧ w75.cell? (ad422.add (((ji39)).toNat * 2)) = some (.int .i64 ((rd_T30 t404 (ji39)).f0)) ∧ w75.cell? ⟨(ad422.add (((ji39)).toNat * 2)).block, (ad422.add (((ji39)).toNat * 2)).off + 1, none⟩ = some (.int .i64 ((rd_T30 t404 (ji39)).f1)) := hS_
             refine norm_ (a' := ?_) ?_ ?_
             rotate_left
             ·
              simp only [putAll, Act.put, sa_, sb_, sc_]
              rfl
             refine one_ (i := 11) (N := none) #[true, true, true, true, true, true, true, true, true, true, true, true, false] rfl rfl (one_of HT_.out (by kernel_rfl)) (by decide) (fun K hK => ?_)
             have hs76 : w75.cell? ⟨gb426, 0, none⟩ = some (.int .i64 0) := (blk_cell BK426.out 0).trans rfl
             have hfs76 := blk_frozen BK426.out 0
             have hns76_0 := NB411_426.out
             have hns76_1 := NB415_426.out
             have hns76_2 := NB421_426.out
             have hms76_0 := NB426_411.out
             have hms76_1 := NB426_415.out
             have hms76_2 := NB426_421.out
             have hs77 : w75.cell? ⟨gb426, 1, none⟩ = some (.int .i64 0) := (blk_cell BK426.out 1).trans rfl
             have hfs77 := blk_frozen BK426.out 1
             have hns77_0 := NB411_426.out
             have hns77_1 := NB415_426.out
             have hns77_2 := NB421_426.out
             have hms77_0 := NB426_411.out
             have hms77_1 := NB426_415.out
             have hms77_2 := NB426_421.out
             refine skip_ (w1 := ?_) (by rfl) rfl ?_ ?_
             rotate_left
             ·
              go_simp
              rfl
             refine hK.out _ _ ⟨((cell_far (p := ⟨gb426, _, none⟩) NB421_426.out _).trans (((cell_far (p := ⟨gb426, _, none⟩) NB421_426.out _).trans (hHeld.1)))), ((cell_far (p := ⟨gb426, _, none⟩) NB421_426.out _).trans (((cell_far (p := ⟨gb426, _, none⟩) NB421_426.out _).trans (hHeld.2.1)))), ((cell_far (p := ⟨gb426, _, none⟩) (by first | exact Kd.own_blk (Kd.R_away HO_3.out (fun _ hk => hk.2.2.2)) | (rw [add_block]; exact Kd.own_blk (Kd.R_away HO_3.out (fun _ hk => hk.2.2.2))) | (show (Addr.add _ _).block ≠ _; rw [add_block]; exact Kd.own_blk (Kd.R_away HO_3.out (fun _ hk => hk.2.2.2))) | (dsimp only; exact Kd.own_blk (Kd.R_away HO_3.out (fun _ hk => hk.2.2.2)))) _).trans (((cell_far (p := ⟨gb426, _, none⟩) (by first | exact Kd.own_blk (Kd.R_away HO_3.out (fun _ hk => hk.2.2.2)) | (rw [add_block]; exact Kd.own_blk (Kd.R_away HO_3.out (fun _ hk => hk.2.2.2))) | (show (Addr.add _ _).block ≠ _; rw [add_block]; exact Kd.own_blk (Kd.R_away HO_3.out (fun _ hk => hk.2.2.2))) | (dsimp only; exact Kd.own_blk (Kd.R_away HO_3.out (fun _ hk => hk.2.2.2)))) _).trans (hHeld.2.2.1)))), ((cell_far (p := ⟨gb426, _, none⟩) (by first | exact Kd.own_blk (Kd.R_away HO_3.out (fun _ hk => hk.2.2.2)) | (rw [add_block]; exact Kd.own_blk (Kd.R_away HO_3.out (fun _ hk => hk.2.2.2))) | (show (Addr.add _ _).block ≠ _; rw [add_block]; exact Kd.own_blk (Kd.R_away HO_3.out (fun _ hk => hk.2.2.2))) | (dsimp only; exact Kd.own_blk (Kd.R_away HO_3.out (fun _ hk => hk.2.2.2)))) _).trans (((cell_far (p := ⟨gb426, _, none⟩) (by first | exact Kd.own_blk (Kd.R_away HO_3.out (fun _ hk => hk.2.2.2)) | (rw [add_block]; exact Kd.own_blk (Kd.R_away HO_3.out (fun _ hk => hk.2.2.2))) | (show (Addr.add _ _).block ≠ _; rw [add_block]; exact Kd.own_blk (Kd.R_away HO_3.out (fun _ hk => hk.2.2.2))) | (dsimp only; exact Kd.own_blk (Kd.R_away HO_3.out (fun _ hk => hk.2.2.2)))) _).trans (hHeld.2.2.2))))⟩ (fun hHeld => ?_)
             clear hK K
             refine pure_ (i := 12) (N := some 15) (v := ?_) (a' := ?_) #[true, true, true, true, true, true, true, true, true, true, true, true, true] rfl rfl (any_of HT_.out (by kernel_rfl)) (fun _ _ _ h => h) (Or.inl ⟨by rfl, ?_⟩) ?_ ?_
             rotate_left
             ·
              intro w'
              go_simp
              with_reducible rfl
             rotate_left
             ·
              simp only [Act.put, sa_, sb_, sc_, i64_w, i32_w]
              rfl
             refine done_ (done_of HT_.out (by kernel_rfl)) ?_
             have hnb78 := NB426_411.out
             have hnc78 := NB411_426.out
             have hnb79 := NB426_415.out
             have hnc79 := NB415_426.out
             have hnb80 := NB426_421.out
             have hnc80 := NB421_426.out
             have hcz81_0 : w75.cell? ⟨gb426, 0, none⟩ = some (.int .i64 0) := (blk_cell BK426.out 0).trans rfl
             have hcz81_1 : w75.cell? ⟨gb426, 1, none⟩ = some (.int .i64 0) := (blk_cell BK426.out 1).trans rfl
             have hfz81_0 := blk_frozen BK426.out 0
             have hfz81_1 := blk_frozen BK426.out 1
             try go_wp2
             go_ret
             exact ⟨by first | rfl | (simp [errW_none, errW_some] <;> rfl) | (simp only [← hji39]; first | rfl | (simp [errW_none, errW_some] <;> rfl)) | (simp [*, errW_none, errW_some] <;> rfl), by repeat (first | (with_reducible first | exact HB.out | apply below_alloc | apply pw_below_drewN | apply below_drew1 | refine below_set ?_ GE411.out | refine below_set ?_ GE415.out | refine below_set ?_ GE421.out | refine below_set ?_ GE426.out) | exact HB.out)⟩
           ·
            replace c44 := Bool.eq_false_iff.mpr c44
            subst c44
            have H1 : (some true) = some r := by rw [if_neg (show ¬ (false = true) by decide)] at H; exact H
            clear H
            have H := H1
            clear H1
            obtain rfl := Option.some.inj H
            have hnb82 := NB411_415.out
            have hnc82 := NB415_411.out
            have hcz83_0 : wr.cell? ⟨gb411, 0, none⟩ = some (.int .i64 t408) := (blk_cell BK411.out 0).trans rfl
            have hcz83_1 : wr.cell? ⟨gb411, 1, none⟩ = some (.int .i64 t409) := (blk_cell BK411.out 1).trans rfl
            have hfz83_0 := blk_frozen BK411.out 0
            have hfz83_1 := blk_frozen BK411.out 1
            try go_wp2_with (first | ((with_reducible refine gate_callee (f := 14) rfl ?_); refine goesL_ (some 80) rfl rfl Tryd.func14 (by kernel_rfl) rfl #[.agg #[.int .i64 t408, .int .i64 t409], .agg #[.int .i64 x9_2, .int .i64 x10_2]] rfl (by (try simp only [List.map_toArray, List.map_cons, List.map_nil]); first | done | rfl | (simp only [List.length_drop, List.length_take]; rfl)) ?_; (with_reducible refine (impl_MulRange.calls t408 t409 x9_2 x10_2 t418 t419 true _ ?side1 A38.out).mono ?_); (case side1 => first | exact HTab.out | exact Tab.below HTab.out (bl_ HB)); rintro e w84 ⟨rfl, hb⟩; refine ⟨_, rfl, ?_⟩; have n0_ := Aside0.mk (Kd.R_below (kr_ HO_3) hb); have n1_ := Aside0.mk (blk_below (g := gb411) (o := .cells #[.int .i64 t408, .int .i64 t409] 30 (0, 0)) (bk_ BK411) hb); have n2_ := Aside0.mk (blk_below (g := gb415) (o := .cells #[.int .i64 t412, .int .i64 t413] 30 (0, 0)) (bk_ BK415) hb); have n3_ := Aside0.mk (below_step (bl_ HB) hb); clear HO_3; clear BK411; clear BK415; clear HB; have HO_3 := n0_; have BK411 := n1_; have BK415 := n2_; have HB := n3_; clear n0_ n1_ n2_ n3_; (try clear hb); (try clear hb2); (try clear hk); (try clear hi)) | ((with_reducible refine gate_dst (N := 12) rfl ?_); refine box_event ?hg (N := 12) ?hd (cs := #[.int .i64 0, .int .i64 0]) (t := 30) ?hr ?_; (case hd => rfl); (case hg => rfl); (case hr => first | (go_simp; done) | (go_simp; rfl)); intro gb421 hg w85 hbox hb; have n0_ := Aside0.mk (Kd.R_below (Kd.R_elderB (kr_ HO_3) gb421 (Nat.le_of_eq hg.symm)) hb); have n1_ := Aside0.mk (blk_below (g := gb411) (o := .cells #[.int .i64 t408, .int .i64 t409] 30 (0, 0)) (bk_ BK411) hb); have n2_ := Aside0.mk (blk_below (g := gb415) (o := .cells #[.int .i64 t412, .int .i64 t413] 30 (0, 0)) (bk_ BK415) hb); have n3_ := Aside0.mk (below_step (bl_ HB) hb); have n4_ := Aside0.mk (hbox); have n5_ := Aside0.mk ((by rw [hg]; exact (below_size (bl_ HB)) : w.heap.size ≤ gb421)); have n6_ := Aside0.mk ((by rw [hg]; exact (below_size (bl_ HB)) : w.heap.size ≤ gb421)); have n7_ := Aside0.mk ((by rw [hg]; exact Nat.ne_of_lt (blk_lt (g := gb411) (o := .cells #[.int .i64 t408, .int .i64 t409] 30 (0, 0)) (bk_ BK411)) : gb411 ≠ gb421)); have n8_ := Aside0.mk ((by rw [hg]; exact Nat.ne_of_gt (blk_lt (g := gb411) (o := .cells #[.int .i64 t408, .int .i64 t409] 30 (0, 0)) (bk_ BK411)) : gb421 ≠ gb411)); have n9_ := Aside0.mk ((by rw [hg]; exact Nat.ne_of_lt (blk_lt (g := gb415) (o := .cells #[.int .i64 t412, .int .i64 t413] 30 (0, 0)) (bk_ BK415)) : gb415 ≠ gb421)); have n10_ := Aside0.mk ((by rw [hg]; exact Nat.ne_of_gt (blk_lt (g := gb415) (o := .cells #[.int .i64 t412, .int .i64 t413] 30 (0, 0)) (bk_ BK415)) : gb421 ≠ gb415)); clear HO_3; clear BK411; clear BK415; clear HB; have HO_3 := n0_; have BK411 := n1_; have BK415 := n2_; have HB := n3_; have BK421 := n4_; have GW421 := n5_; have GE421 := n6_; have NB411_421 := n7_; have NB421_411 := n8_; have NB415_421 := n9_; have NB421_415 := n10_; clear n0_ n1_ n2_ n3_ n4_ n5_ n6_ n7_ n8_ n9_ n10_; clear hb hbox hg; have hnb86 := NB421_411.out; have hnc86 := NB411_421.out; have hnb87 := NB421_415.out; have hnc87 := NB415_421.out; have hcz88_0 : w85.cell? ⟨gb421, 0, none⟩ = some (.int .i64 0) := (blk_cell BK421.out 0).trans rfl; have hcz88_1 : w85.cell? ⟨gb421, 1, none⟩ = some (.int .i64 0) := (blk_cell BK421.out 1).trans rfl; have hfz88_0 := blk_frozen BK421.out 0; have hfz88_1 := blk_frozen BK421.out 1))
            have n0_ : Aside0 (Kd.R k30 30 ((w85.setCell ⟨gb421, 0, none⟩ (.int .i64 t418)).setCell ⟨gb421, 1, none⟩ (.int .i64 t419)) w.heap.size (fun k_ => k_ ≠ gb411 ∧ k_ ≠ gb415 ∧ k_ ≠ gb421) (.slice Ao8 t404.length co8) t404) := ⟨by (with_reducible repeat (first | apply Kd.R_alloc | apply Kd.R_drewN | apply Kd.R_drew)); exact Kd.R_mono (Kd.R_far (p := ⟨gb421, 1, none⟩) (Kd.R_far (p := ⟨gb421, 0, none⟩) (Kd.R_mono HO_3.out (fun k_ hk => (⟨hk, hk.2⟩ : _ ∧ k_ ≠ gb421))) (fun _ hk => hk.2) (.int .i64 t418)) (fun _ hk => hk.2) (.int .i64 t419)) (fun _ hk => ⟨hk.1.1.1, ⟨hk.1.1.2, hk.1.2⟩⟩)⟩
            have n1_ : Aside0 (((w85.setCell ⟨gb421, 0, none⟩ (.int .i64 t418)).setCell ⟨gb421, 1, none⟩ (.int .i64 t419)).heap[gb411]? = some (.cells #[.int .i64 t408, .int .i64 t409] 30 (0, 0))) := ⟨by (with_reducible repeat (first | refine blk_drewN ?_ _ | refine blk_drew ?_ | refine blk_alloc ?_ _)); refine blk_far ?_ NB411_421.out _; (with_reducible repeat (first | refine blk_drewN ?_ _ | refine blk_drew ?_ | refine blk_alloc ?_ _)); refine blk_far ?_ NB411_421.out _; (with_reducible repeat (first | refine blk_drewN ?_ _ | refine blk_drew ?_ | refine blk_alloc ?_ _)); exact BK411.out⟩
            have n2_ : Aside0 (((w85.setCell ⟨gb421, 0, none⟩ (.int .i64 t418)).setCell ⟨gb421, 1, none⟩ (.int .i64 t419)).heap[gb415]? = some (.cells #[.int .i64 t412, .int .i64 t413] 30 (0, 0))) := ⟨by (with_reducible repeat (first | refine blk_drewN ?_ _ | refine blk_drew ?_ | refine blk_alloc ?_ _)); refine blk_far ?_ NB415_421.out _; (with_reducible repeat (first | refine blk_drewN ?_ _ | refine blk_drew ?_ | refine blk_alloc ?_ _)); refine blk_far ?_ NB415_421.out _; (with_reducible repeat (first | refine blk_drewN ?_ _ | refine blk_drew ?_ | refine blk_alloc ?_ _)); exact BK415.out⟩
            have n3_ : Aside0 (((w85.setCell ⟨gb421, 0, none⟩ (.int .i64 t418)).setCell ⟨gb421, 1, none⟩ (.int .i64 t419)).heap[gb421]? = some (.cells #[.int .i64 t418, .int .i64 t419] 30 (0, 0))) := ⟨by (with_reducible repeat (first | refine blk_drewN ?_ _ | refine blk_drew ?_ | refine blk_alloc ?_ _)); refine blk_put (cs := #[.int .i64 t418, .int .i64 0]) ?_ 1 _ rfl; (with_reducible repeat (first | refine blk_drewN ?_ _ | refine blk_drew ?_ | refine blk_alloc ?_ _)); refine blk_put (cs := #[.int .i64 0, .int .i64 0]) ?_ 0 _ rfl; (with_reducible repeat (first | refine blk_drewN ?_ _ | refine blk_drew ?_ | refine blk_alloc ?_ _)); exact BK421.out⟩
            have n4_ : Aside0 (Below w.heap.size w ((w85.setCell ⟨gb421, 0, none⟩ (.int .i64 t418)).setCell ⟨gb421, 1, none⟩ (.int .i64 t419))) := ⟨by repeat (first | (with_reducible first | exact HB.out | apply below_alloc | apply pw_below_drewN | apply below_drew1 | refine below_set ?_ GE411.out | refine below_set ?_ GE415.out | refine below_set ?_ GE421.out) | exact HB.out)⟩
            (try clear HO_3)
            (try clear BK411)
            (try clear BK415)
            (try clear BK421)
            (try clear HB)
            generalize ((w85.setCell ⟨gb421, 0, none⟩ (.int .i64 t418)).setCell ⟨gb421, 1, none⟩ (.int .i64 t419)) = w89 at n0_ n1_ n2_ n3_ n4_ ⊢
            have HO_3 := n0_
            have BK411 := n1_
            have BK415 := n2_
            have BK421 := n3_
            have HB := n4_
            clear n0_ n1_ n2_ n3_ n4_
            have n0_ := Aside0.mk (Kd.R_drew HO_3.out)
            have n1_ := Aside0.mk (blk_drew BK411.out)
            have n2_ := Aside0.mk (blk_drew BK415.out)
            have n3_ := Aside0.mk (blk_drew BK421.out)
            have n4_ := Aside0.mk (below_drew1 HB.out)
            clear HO_3
            clear BK411
            clear BK415
            clear BK421
            clear HB
            have HO_3 := n0_
            have BK411 := n1_
            have BK415 := n2_
            have BK421 := n3_
            have HB := n4_
            clear n0_ n1_ n2_ n3_ n4_
            have p422 : 0 ≤ ((ji39) : Int) := of_decide_eq_true (by first | (with_reducible assumption) | assumption)
            have q422 : (ji39) < (t404.length : Int) := of_decide_eq_true (by first | (with_reducible assumption) | assumption)
            obtain ⟨ad422, e422, hx422_0, hx422_1⟩ := at_T30 (Kd.R_reads' HO_3.out).2.2 (ji39) p422 q422
            cases e422
            replace p422 := eq_true p422
            replace q422 := eq_true q422
            refine start_ (n := 13) (S := fun w' => w'.cell? ⟨gb421, 0, none⟩ = some (.int .i64 t418) ∧ w'.cell? ⟨gb421, 1, none⟩ = some (.int .i64 t419) ∧ w'.cell? (ad422.add (((ji39)).toNat * 2)) = some (.int .i64 ((rd_T30 t404 (ji39)).f0)) ∧ w'.cell? ⟨(ad422.add (((ji39)).toNat * 2)).block, (ad422.add (((ji39)).toNat * 2)).off + 1, none⟩ = some (.int .i64 ((rd_T30 t404 (ji39)).f1))) (ds := []) #[false, false, false, false, false, false, false, false, false, false, false, false, false] (by kernel_rfl) rfl rfl ⟨(blk_cell BK421.out 0).trans rfl, (blk_cell BK421.out 1).trans rfl, hx422_0, hx422_1⟩ (fun hHeld => ?_); refine with_tabW laws_FnSwapRate.tab16 laws_FnSwapRate.bits16 (fun HT_ HW_ => ?_)
            generalize w89.drew = w90 at HO_3 BK411 BK415 BK421 HB hx422_0 hx422_1 hHeld ⊢
            refine pure_ (i := 1) (N := some 85) (v := ?_) (a' := ?_) #[false, true, false, false, false, false, false, false, false, false, false, false, false] rfl rfl (any_of HT_.out (by kernel_rfl)) (fun _ _ _ h => h) (Or.inl ⟨by rfl, ?_⟩) ?_ ?_
            rotate_left
            ·
             intro w'
             go_simp
             with_reducible rfl
            rotate_left
            ·
             simp only [Act.put, sa_, sb_, sc_, i64_w, i32_w]
             rfl
            refine pure_ (i := 2) (N := some 86) (v := ?_) (a' := ?_) #[false, true, true, false, false, false, false, false, false, false, false, false, false] rfl rfl (any_of HT_.out (by kernel_rfl)) (fun _ _ _ h => h) (Or.inl ⟨by rfl, ?_⟩) ?_ ?_
            rotate_left
            ·
             intro w'
             go_simp
             with_reducible rfl
            rotate_left
            ·
             simp only [Act.put, sa_, sb_, sc_, i64_w, i32_w]
             rfl
            refine pure_ (i := 3) (N := some 87) (v := ?_) (a' := ?_) #[false, true, true, true, false, false, false, false, false, false, false, false, false] rfl rfl (any_of HT_.out (by kernel_rfl)) (fun _ _ _ h => h) (Or.inl ⟨by rfl, ?_⟩) ?_ ?_
            rotate_left
            ·
             intro w'
             go_simp
             with_reducible rfl
            rotate_left
            ·
             simp only [Act.put, sa_, sb_, sc_, i64_w, i32_w]
             rfl
            refine pure_ (i := 4) (N := some 88) (v := ?_) (a' := ?_) #[false, true, true, true, true, false, false, false, false, false, false, false, false] rfl rfl (any_of HT_.out (by kernel_rfl)) (fun _ _ _ h => h) (Or.inl ⟨by rfl, ?_⟩) ?_ ?_
            rotate_left
            ·
             intro w'
             go_simp
             with_reducible rfl
            rotate_left
            ·
             simp only [Act.put, sa_, sb_, sc_, i64_w, i32_w]
             rfl
            refine take_ (i := 0) (N := some 84) (v := ?_) (a' := ?_) #[true, true, true, true, true, false, false, false, false, false, false, false, false] rfl rfl (take_ofW HT_.out HW_.out (by kernel_rfl)) (fun _ _ _ h => h) (Or.inl ⟨by rfl, ?_⟩) hHeld ?_ ?_
            rotate_left
            ·
             rintro w' ⟨s0, s1, s2, s3⟩
             go_simp
             with_reducible rfl
            rotate_left
            ·
             simp only [Act.put, sa_, sb_, sc_, i64_w, i32_w]
             rfl
            refine take_ (i := 5) (N := some 89) (v := ?_) (a' := ?_) #[true, true, true, true, true, true, false, false, false, false, false, false, false] rfl rfl (take_ofW HT_.out HW_.out (by kernel_rfl)) (fun _ _ _ h => h) (Or.inl ⟨by rfl, ?_⟩) hHeld ?_ ?_
            rotate_left
            ·
             rintro w' ⟨s0, s1, s2, s3⟩
             go_simp
             with_reducible rfl
            rotate_left
            ·
             simp only [Act.put, sa_, sb_, sc_, i64_w, i32_w]
             rfl
            refine join_ (σ := Nat) 2 #[true, true, true, true, true, true, true, true, true, true, true, false, false] (fun s_ => [(90, .tuple #[.agg #[.int .i64 t423, .int .i64 t424], .bool false]), (14, .pointer (some ⟨s_, 0, none⟩)), (83, .tuple #[.agg #[.int .i64 t423, .int .i64 t424], .bool false]), (91, .agg #[.int .i64 t423, .int .i64 t424]), (92, .bool false)]) (fun s_ w' => (w'.cell? ⟨gb421, 0, none⟩ = some (.int .i64 t418) ∧ w'.cell? ⟨gb421, 1, none⟩ = some (.int .i64 t419) ∧ w'.cell? (ad422.add (((ji39)).toNat * 2)) = some (.int .i64 ((rd_T30 t404 (ji39)).f0)) ∧ w'.cell? ⟨(ad422.add (((ji39)).toNat * 2)).block, (ad422.add (((ji39)).toNat * 2)).off + 1, none⟩ = some (.int .i64 ((rd_T30 t404 (ji39)).f1))) ∧ (Kd.R k30 30 w' w.heap.size (fun k_ => k_ ≠ gb411 ∧ k_ ≠ gb415 ∧ k_ ≠ gb421 ∧ k_ ≠ s_) (.slice (some ad422) t404.length co8) t404) ∧ (w'.heap[gb411]? = some (.cells #[.int .i64 t408, .int .i64 t409] 30 (0, 0))) ∧ (w'.heap[gb415]? = some (.cells #[.int .i64 t412, .int .i64 t413] 30 (0, 0))) ∧ (w'.heap[gb421]? = some (.cells #[.int .i64 t418, .int .i64 t419] 30 (0, 0))) ∧ (w'.heap[s_]? = some (.cells #[.int .i64 0, .int .i64 0] 30 (0, 0))) ∧ (w.heap.size ≤ s_) ∧ (w.heap.size ≤ s_) ∧ (gb411 ≠ s_) ∧ (s_ ≠ gb411) ∧ (gb415 ≠ s_) ∧ (s_ ≠ gb415) ∧ (gb421 ≠ s_) ∧ (s_ ≠ gb421) ∧ (Below w.heap.size w w')) ?_ ?_
            rotate_left
            ·
             intro hCont
             refine two_ (i := 6) (j := 10) (Ni := some 90) (Nj := some 14) #[true, true, true, true, true, true, true, false, false, false, false, false, false] #[true, true, true, true, true, true, false, false, false, false, true, false, false] rfl rfl rfl rfl (two_of HT_.out (by kernel_rfl)) (by decide) (by decide) (fun K hK => ?_) (fun K hK => ?_)
             ·
              skip
              refine goes_ Tryd.func15 (by kernel_rfl) rfl #[.agg #[.int .i64 t418, .int .i64 t419], .agg #[.int .i64 ((rd_T30 t404 (ji39)).f0), .int .i64 ((rd_T30 t404 (ji39)).f1)]] (by rfl) rfl rfl (by (try simp only [List.map_toArray, List.map_cons, List.map_nil]); first | done | (simp only [hji39]; rfl) | rfl | (simp only [List.length_drop, List.length_take]; rfl)) ?_
              with_reducible refine (impl_AddRange.calls t418 t419 ((rd_T30 t404 (ji39)).f0) ((rd_T30 t404 (ji39)).f1) t423 t424 false _ ?side1 A42.out).mono ?_
              (case side1 => first | exact HTab.out | exact Tab.below HTab.out (bl_ HB))
              rintro e w91 ⟨rfl, hb⟩
              have HS2_ := (hb.cell (World.block_lt_of_cell? _ _ (hHeld.2.2.1))).trans (hHeld.2.2.1)
              have HS3_ := (hb.cell (World.block_lt_of_cell? _ _ (hHeld.2.2.2))).trans (hHeld.2.2.2)
              refine ⟨_, rfl, ?_⟩
              have n0_ := Aside0.mk (Kd.R_below (kr_ HO_3) hb)
              have n1_ := Aside0.mk (blk_below (g := gb411) (o := .cells #[.int .i64 t408, .int .i64 t409] 30 (0, 0)) (bk_ BK411) hb)
              have n2_ := Aside0.mk (blk_below (g := gb415) (o := .cells #[.int .i64 t412, .int .i64 t413] 30 (0, 0)) (bk_ BK415) hb)
              have n3_ := Aside0.mk (blk_below (g := gb421) (o := .cells #[.int .i64 t418, .int .i64 t419] 30 (0, 0)) (bk_ BK421) hb)
              have n4_ := Aside0.mk (below_step (bl_ HB) hb)
              clear HO_3
              clear BK411
              clear BK415
              clear BK421
              clear HB
              have HO_3 := n0_
              have BK411 := n1_
              have BK415 := n2_
              have BK421 := n3_
              have HB := n4_
              clear n0_ n1_ n2_ n3_ n4_
              (try clear hb)
              (try clear hb2)
              (try clear hk)
              (try clear hi)
              refine hK.out _ _ ⟨(blk_cell BK421.out 0).trans rfl, (blk_cell BK421.out 1).trans rfl, HS2_, HS3_⟩ (fun hHeld => ?_)
              clear hK K
              refine norm_ (a' := ?_) ?_ ?_
              rotate_left
              ·
               show Act.put _ (some 90) _ = _
               simp only [Act.put, sa_, sb_, sc_, i64_w, i32_w]
               rfl
              refine pure_ (i := 7) (N := some 83) (v := ?_) (a' := ?_) #[true, true, true, true, true, true, true, true, false, false, false, false, false] rfl rfl (any_of HT_.out (by kernel_rfl)) (fun _ _ _ h => h) (Or.inl ⟨by rfl, ?_⟩) ?_ ?_
              rotate_left
              ·
               intro w'
               go_simp
               with_reducible rfl
              rotate_left
              ·
               simp only [Act.put, sa_, sb_, sc_, i64_w, i32_w]
               rfl
              refine pure_ (i := 8) (N := some 91) (v := ?_) (a' := ?_) #[true, true, true, true, true, true, true, true, true, false, false, false, false] rfl rfl (any_of HT_.out (by kernel_rfl)) (fun _ _ _ h => h) (Or.inl ⟨by rfl, ?_⟩) ?_ ?_
              rotate_left
              ·
               intro w'
               go_simp
               with_reducible rfl
              rotate_left
              ·
               simp only [Act.put, sa_, sb_, sc_, i64_w, i32_w]
               rfl
              refine pure_ (i := 9) (N := some 92) (v := ?_) (a' := ?_) #[true, true, true, true, true, true, true, true, true, true, false, false, false] rfl rfl (any_of HT_.out (by kernel_rfl)) (fun _ _ _ h => h) (Or.inl ⟨by rfl, ?_⟩) ?_ ?_
              rotate_left
              ·
               intro w'
               go_simp
               with_reducible rfl
              rotate_left
              ·
               simp only [Act.put, sa_, sb_, sc_, i64_w, i32_w]
               rfl
              refine one_ (i := 10) (N := some 14) #[true, true, true, true, true, true, true, true, true, true, true, false, false] rfl rfl (one_of HT_.out (by kernel_rfl)) (by decide) (fun K hK => ?_)
              refine box_step ?hg (N := 14) ?hd (cs := #[.int .i64 0, .int .i64 0]) (t := 30) ?hr ?_; (case hd => rfl); (case hg => rfl); (case hr => first | (go_simp; done) | (go_simp; rfl))
              intro gb426 hg w92 hbox hb
              have HS2_ := (hb.cell (World.block_lt_of_cell? _ _ (hHeld.2.2.1))).trans (hHeld.2.2.1)
              have HS3_ := (hb.cell (World.block_lt_of_cell? _ _ (hHeld.2.2.2))).trans (hHeld.2.2.2)
              have n0_ := Aside0.mk (Kd.R_below (Kd.R_elderB (kr_ HO_3) gb426 (Nat.le_of_eq hg.symm)) hb)
              have n1_ := Aside0.mk (blk_below (g := gb411) (o := .cells #[.int .i64 t408, .int .i64 t409] 30 (0, 0)) (bk_ BK411) hb)
              have n2_ := Aside0.mk (blk_below (g := gb415) (o := .cells #[.int .i64 t412, .int .i64 t413] 30 (0, 0)) (bk_ BK415) hb)
              have n3_ := Aside0.mk (blk_below (g := gb421) (o := .cells #[.int .i64 t418, .int .i64 t419] 30 (0, 0)) (bk_ BK421) hb)
              have n4_ := Aside0.mk (below_step (bl_ HB) hb)
              have n5_ := Aside0.mk (hbox)
              have n6_ := Aside0.mk ((by rw [hg]; exact (below_size (bl_ HB)) : w.heap.size ≤ gb426))
              have n7_ := Aside0.mk ((by rw [hg]; exact (below_size (bl_ HB)) : w.heap.size ≤ gb426))
              have n8_ := Aside0.mk ((by rw [hg]; exact Nat.ne_of_lt (blk_lt (g := gb411) (o := .cells #[.int .i64 t408, .int .i64 t409] 30 (0, 0)) (bk_ BK411)) : gb411 ≠ gb426))
              have n9_ := Aside0.mk ((by rw [hg]; exact Nat.ne_of_gt (blk_lt (g := gb411) (o := .cells #[.int .i64 t408, .int .i64 t409] 30 (0, 0)) (bk_ BK411)) : gb426 ≠ gb411))
              have n10_ := Aside0.mk ((by rw [hg]; exact Nat.ne_of_lt (blk_lt (g := gb415) (o := .cells #[.int .i64 t412, .int .i64 t413] 30 (0, 0)) (bk_ BK415)) : gb415 ≠ gb426))
              have n11_ := Aside0.mk ((by rw [hg]; exact Nat.ne_of_gt (blk_lt (g := gb415) (o := .cells #[.int .i64 t412, .int .i64 t413] 30 (0, 0)) (bk_ BK415)) : gb426 ≠ gb415))
              have n12_ := Aside0.mk ((by rw [hg]; exact Nat.ne_of_lt (blk_lt (g := gb421) (o := .cells #[.int .i64 t418, .int .i64 t419] 30 (0, 0)) (bk_ BK421)) : gb421 ≠ gb426))
              have n13_ := Aside0.mk ((by rw [hg]; exact Nat.ne_of_gt (blk_lt (g := gb421) (o := .cells #[.int .i64 t418, .int .i64 t419] 30 (0, 0)) (bk_ BK421)) : gb426 ≠ gb421))
              clear HO_3
              clear BK411
              clear BK415
              clear BK421
              clear HB
              have HO_3 := n0_
              have BK411 := n1_
              have BK415 := n2_
              have BK421 := n3_
              have HB := n4_
              have BK426 := n5_
              have GW426 := n6_
              have GE426 := n7_
              have NB411_426 := n8_
              have NB426_411 := n9_
              have NB415_426 := n10_
              have NB426_415 := n11_
              have NB421_426 := n12_
              have NB426_421 := n13_
              clear n0_ n1_ n2_ n3_ n4_ n5_ n6_ n7_ n8_ n9_ n10_ n11_ n12_ n13_
              clear hb hbox hg
              refine hK.out _ _ ⟨(blk_cell BK421.out 0).trans rfl, (blk_cell BK421.out 1).trans rfl, HS2_, HS3_⟩ (fun hHeld => ?_)
              clear hK K
              refine norm_ (a' := ?_) ?_ ?_
              rotate_left
              ·
               show Act.put _ (some 14) _ = _
               simp only [Act.put, sa_, sb_, sc_, i64_w, i32_w]
               rfl
              exact norm_ (by simp only [putAll, Act.put, sa_, sb_, sc_]) (hCont (gb426) _ ⟨hHeld, (by (with_reducible repeat (first | apply Kd.R_alloc | apply Kd.R_drewN | apply Kd.R_drew)); exact Kd.R_mono HO_3.out (fun _ hk => ⟨hk.1.1, ⟨hk.1.2.1, ⟨hk.1.2.2, hk.2⟩⟩⟩)), (bk_ BK411), (bk_ BK415), (bk_ BK421), (bk_ BK426), GW426.out, GE426.out, NB411_426.out, NB426_411.out, NB415_426.out, NB426_415.out, NB421_426.out, NB426_421.out, (bl_ HB)⟩)
             ·
              skip
              refine box_step ?hg (N := 14) ?hd (cs := #[.int .i64 0, .int .i64 0]) (t := 30) ?hr ?_; (case hd => rfl); (case hg => rfl); (case hr => first | (go_simp; done) | (go_simp; rfl))
              intro gb426 hg w91 hbox hb
              have HS2_ := (hb.cell (World.block_lt_of_cell? _ _ (hHeld.2.2.1))).trans (hHeld.2.2.1)
              have HS3_ := (hb.cell (World.block_lt_of_cell? _ _ (hHeld.2.2.2))).trans (hHeld.2.2.2)
              have n0_ := Aside0.mk (Kd.R_below (Kd.R_elderB (kr_ HO_3) gb426 (Nat.le_of_eq hg.symm)) hb)
              have n1_ := Aside0.mk (blk_below (g := gb411) (o := .cells #[.int .i64 t408, .int .i64 t409] 30 (0, 0)) (bk_ BK411) hb)
              have n2_ := Aside0.mk (blk_below (g := gb415) (o := .cells #[.int .i64 t412, .int .i64 t413] 30 (0, 0)) (bk_ BK415) hb)
              have n3_ := Aside0.mk (blk_below (g := gb421) (o := .cells #[.int .i64 t418, .int .i64 t419] 30 (0, 0)) (bk_ BK421) hb)
              have n4_ := Aside0.mk (below_step (bl_ HB) hb)
              have n5_ := Aside0.mk (hbox)
              have n6_ := Aside0.mk ((by rw [hg]; exact (below_size (bl_ HB)) : w.heap.size ≤ gb426))
              have n7_ := Aside0.mk ((by rw [hg]; exact (below_size (bl_ HB)) : w.heap.size ≤ gb426))
              have n8_ := Aside0.mk ((by rw [hg]; exact Nat.ne_of_lt (blk_lt (g := gb411) (o := .cells #[.int .i64 t408, .int .i64 t409] 30 (0, 0)) (bk_ BK411)) : gb411 ≠ gb426))
              have n9_ := Aside0.mk ((by rw [hg]; exact Nat.ne_of_gt (blk_lt (g := gb411) (o := .cells #[.int .i64 t408, .int .i64 t409] 30 (0, 0)) (bk_ BK411)) : gb426 ≠ gb411))
              have n10_ := Aside0.mk ((by rw [hg]; exact Nat.ne_of_lt (blk_lt (g := gb415) (o := .cells #[.int .i64 t412, .int .i64 t413] 30 (0, 0)) (bk_ BK415)) : gb415 ≠ gb426))
              have n11_ := Aside0.mk ((by rw [hg]; exact Nat.ne_of_gt (blk_lt (g := gb415) (o := .cells #[.int .i64 t412, .int .i64 t413] 30 (0, 0)) (bk_ BK415)) : gb426 ≠ gb415))
              have n12_ := Aside0.mk ((by rw [hg]; exact Nat.ne_of_lt (blk_lt (g := gb421) (o := .cells #[.int .i64 t418, .int .i64 t419] 30 (0, 0)) (bk_ BK421)) : gb421 ≠ gb426))
              have n13_ := Aside0.mk ((by rw [hg]; exact Nat.ne_of_gt (blk_lt (g := gb421) (o := .cells #[.int .i64 t418, .int .i64 t419] 30 (0, 0)) (bk_ BK421)) : gb426 ≠ gb421))
              clear HO_3
              clear BK411
              clear BK415
              clear BK421
              clear HB
              have HO_3 := n0_
              have BK411 := n1_
              have BK415 := n2_
              have BK421 := n3_
              have HB := n4_
              have BK426 := n5_
              have GW426 := n6_
              have GE426 := n7_
              have NB411_426 := n8_
              have NB426_411 := n9_
              have NB415_426 := n10_
              have NB426_415 := n11_
              have NB421_426 := n12_
              have NB426_421 := n13_
              clear n0_ n1_ n2_ n3_ n4_ n5_ n6_ n7_ n8_ n9_ n10_ n11_ n12_ n13_
              clear hb hbox hg
              refine hK.out _ _ ⟨(blk_cell BK421.out 0).trans rfl, (blk_cell BK421.out 1).trans rfl, HS2_, HS3_⟩ (fun hHeld => ?_)
              clear hK K
              refine norm_ (a' := ?_) ?_ ?_
              rotate_left
              ·
               show Act.put _ (some 14) _ = _
               simp only [Act.put, sa_, sb_, sc_, i64_w, i32_w]
               rfl
              refine one_ (i := 6) (N := some 90) #[true, true, true, true, true, true, true, false, false, false, true, false, false] rfl rfl (one_of HT_.out (by kernel_rfl)) (by decide) (fun K hK => ?_)
              refine goes_ Tryd.func15 (by kernel_rfl) rfl #[.agg #[.int .i64 t418, .int .i64 t419], .agg #[.int .i64 ((rd_T30 t404 (ji39)).f0), .int .i64 ((rd_T30 t404 (ji39)).f1)]] (by rfl) rfl rfl (by (try simp only [List.map_toArray, List.map_cons, List.map_nil]); first | done | (simp only [hji39]; rfl) | rfl | (simp only [List.length_drop, List.length_take]; rfl)) ?_
              with_reducible refine (impl_AddRange.calls t418 t419 ((rd_T30 t404 (ji39)).f0) ((rd_T30 t404 (ji39)).f1) t423 t424 false _ ?side1 A42.out).mono ?_
              (case side1 => first | exact HTab.out | exact Tab.below HTab.out (bl_ HB))
              rintro e w92 ⟨rfl, hb⟩
              have HS2_ := (hb.cell (World.block_lt_of_cell? _ _ (hHeld.2.2.1))).trans (hHeld.2.2.1)
              have HS3_ := (hb.cell (World.block_lt_of_cell? _ _ (hHeld.2.2.2))).trans (hHeld.2.2.2)
              refine ⟨_, rfl, ?_⟩
              have n0_ := Aside0.mk (Kd.R_below (kr_ HO_3) hb)
              have n1_ := Aside0.mk (blk_below (g := gb411) (o := .cells #[.int .i64 t408, .int .i64 t409] 30 (0, 0)) (bk_ BK411) hb)
              have n2_ := Aside0.mk (blk_below (g := gb415) (o := .cells #[.int .i64 t412, .int .i64 t413] 30 (0, 0)) (bk_ BK415) hb)
              have n3_ := Aside0.mk (blk_below (g := gb421) (o := .cells #[.int .i64 t418, .int .i64 t419] 30 (0, 0)) (bk_ BK421) hb)
              have n4_ := Aside0.mk (blk_below (g := gb426) (o := .cells #[.int .i64 0, .int .i64 0] 30 (0, 0)) (bk_ BK426) hb)
              have n5_ := Aside0.mk (below_step (bl_ HB) hb)
              clear HO_3
              clear BK411
              clear BK415
              clear BK421
              clear BK426
              clear HB
              have HO_3 := n0_
              have BK411 := n1_
              have BK415 := n2_
              have BK421 := n3_
              have BK426 := n4_
              have HB := n5_
              clear n0_ n1_ n2_ n3_ n4_ n5_
              (try clear hb)
              (try clear hb2)
              (try clear hk)
              (try clear hi)
              refine hK.out _ _ ⟨(blk_cell BK421.out 0).trans rfl, (blk_cell BK421.out 1).trans rfl, HS2_, HS3_⟩ (fun hHeld => ?_)
              clear hK K
              refine norm_ (a' := ?_) ?_ ?_
              rotate_left
              ·
               show Act.put _ (some 90) _ = _
               simp only [Act.put, sa_, sb_, sc_, i64_w, i32_w]
               rfl
              refine pure_ (i := 7) (N := some 83) (v := ?_) (a' := ?_) #[true, true, true, true, true, true, true, true, false, false, true, false, false] rfl rfl (any_of HT_.out (by kernel_rfl)) (fun _ _ _ h => h) (Or.inl ⟨by rfl, ?_⟩) ?_ ?_
              rotate_left
              ·
               intro w'
               go_simp
               with_reducible rfl
              rotate_left
              ·
               simp only [Act.put, sa_, sb_, sc_, i64_w, i32_w]
               rfl
              refine pure_ (i := 8) (N := some 91) (v := ?_) (a' := ?_) #[true, true, true, true, true, true, true, true, true, false, true, false, false] rfl rfl (any_of HT_.out (by kernel_rfl)) (fun _ _ _ h => h) (Or.inl ⟨by rfl, ?_⟩) ?_ ?_
              rotate_left
              ·
               intro w'
               go_simp
               with_reducible rfl
              rotate_left
              ·
               simp only [Act.put, sa_, sb_, sc_, i64_w, i32_w]
               rfl
              refine pure_ (i := 9) (N := some 92) (v := ?_) (a' := ?_) #[true, true, true, true, true, true, true, true, true, true, true, false, false] rfl rfl (any_of HT_.out (by kernel_rfl)) (fun _ _ _ h => h) (Or.inl ⟨by rfl, ?_⟩) ?_ ?_
              rotate_left
              ·
               intro w'
               go_simp
               with_reducible rfl
              rotate_left
              ·
               simp only [Act.put, sa_, sb_, sc_, i64_w, i32_w]
               rfl
              exact norm_ (by simp only [putAll, Act.put, sa_, sb_, sc_]) (hCont (gb426) _ ⟨hHeld, (by (with_reducible repeat (first | apply Kd.R_alloc | apply Kd.R_drewN | apply Kd.R_drew)); exact Kd.R_mono HO_3.out (fun _ hk => ⟨hk.1.1, ⟨hk.1.2.1, ⟨hk.1.2.2, hk.2⟩⟩⟩)), (bk_ BK411), (bk_ BK415), (bk_ BK421), (bk_ BK426), GW426.out, GE426.out, NB411_426.out, NB426_411.out, NB415_426.out, NB426_415.out, NB421_426.out, NB426_421.out, (bl_ HB)⟩)
            rintro gb426 w93 ⟨hS_, h0_, h1_, h2_, h3_, h4_, h5_, h6_, h7_, h8_, h9_, h10_, h11_, h12_, h13_⟩
            have n0_ : Aside0 (Kd.R k30 30 w93 w.heap.size (fun k_ => k_ ≠ gb411 ∧ k_ ≠ gb415 ∧ k_ ≠ gb421 ∧ k_ ≠ gb426) (.slice (some ad422) t404.length co8) t404) := ⟨h0_⟩
            have n1_ : Aside0 (w93.heap[gb411]? = some (.cells #[.int .i64 t408, .int .i64 t409] 30 (0, 0))) := ⟨h1_⟩
            have n2_ : Aside0 (w93.heap[gb415]? = some (.cells #[.int .i64 t412, .int .i64 t413] 30 (0, 0))) := ⟨h2_⟩
            have n3_ : Aside0 (w93.heap[gb421]? = some (.cells #[.int .i64 t418, .int .i64 t419] 30 (0, 0))) := ⟨h3_⟩
            have n4_ : Aside0 (w93.heap[gb426]? = some (.cells #[.int .i64 0, .int .i64 0] 30 (0, 0))) := ⟨h4_⟩
            have n5_ : Aside0 (w.heap.size ≤ gb426) := ⟨h5_⟩
            have n6_ : Aside0 (w.heap.size ≤ gb426) := ⟨h6_⟩
            have n7_ : Aside0 (gb411 ≠ gb426) := ⟨h7_⟩
            have n8_ : Aside0 (gb426 ≠ gb411) := ⟨h8_⟩
            have n9_ : Aside0 (gb415 ≠ gb426) := ⟨h9_⟩
            have n10_ : Aside0 (gb426 ≠ gb415) := ⟨h10_⟩
            have n11_ : Aside0 (gb421 ≠ gb426) := ⟨h11_⟩
            have n12_ : Aside0 (gb426 ≠ gb421) := ⟨h12_⟩
            have n13_ : Aside0 (Below w.heap.size w w93) := ⟨h13_⟩
            clear HO_3
            clear BK411
            clear BK415
            clear BK421
            clear HB
            clear h0_ h1_ h2_ h3_ h4_ h5_ h6_ h7_ h8_ h9_ h10_ h11_ h12_ h13_
            have HO_3 := n0_
            have BK411 := n1_
            have BK415 := n2_
            have BK421 := n3_
            have BK426 := n4_
            have GW426 := n5_
            have GE426 := n6_
            have NB411_426 := n7_
            have NB426_411 := n8_
            have NB415_426 := n9_
            have NB426_415 := n10_
            have NB421_426 := n11_
            have NB426_421 := n12_
            have HB := n13_
            clear n0_ n1_ n2_ n3_ n4_ n5_ n6_ n7_ n8_ n9_ n10_ n11_ n12_ n13_
            have hHeld : w93.cell? ⟨gb421, 0, none⟩ = some (.int .i64 t418) ∧ w93.cell? ⟨gb421, 1, none⟩ = some (.int .i64 t419) ∧ w93.cell? (ad422.add (((ji39)).toNat * 2)) = some (.int .i64 ((rd_T30 t404 (ji39)).f0)) ∧ w93.cell? ⟨(ad422.add (((ji39)).toNat * 2)).block, (ad422.add (((ji39)).toNat * 2)).off + 1, none⟩ = some (.int .i64 ((rd_T30 t404 (ji39)).f1)) := hS_
            refine norm_ (a' := ?_) ?_ ?_
            rotate_left
            ·
             simp only [putAll, Act.put, sa_, sb_, sc_]
             rfl
            refine one_ (i := 11) (N := none) #[true, true, true, true, true, true, true, true, true, true, true, true, false] rfl rfl (one_of HT_.out (by kernel_rfl)) (by decide) (fun K hK => ?_)
            have hs94 : w93.cell? ⟨gb426, 0, none⟩ = some (.int .i64 0) := (blk_cell BK426.out 0).trans rfl
            have hfs94 := blk_frozen BK426.out 0
            have hns94_0 := NB411_426.out
            have hns94_1 := NB415_426.out
            have hns94_2 := NB421_426.out
            have hms94_0 := NB426_411.out
            have hms94_1 := NB426_415.out
            have hms94_2 := NB426_421.out
            have hs95 : w93.cell? ⟨gb426, 1, none⟩ = some (.int .i64 0) := (blk_cell BK426.out 1).trans rfl
            have hfs95 := blk_frozen BK426.out 1
            have hns95_0 := NB411_426.out
            have hns95_1 := NB415_426.out
            have hns95_2 := NB421_426.out
            have hms95_0 := NB426_411.out
            have hms95_1 := NB426_415.out
            have hms95_2 := NB426_421.out
            refine skip_ (w1 := ?_) (by rfl) rfl ?_ ?_
            rotate_left
            ·
             go_simp
             rfl
            refine hK.out _ _ ⟨((cell_far (p := ⟨gb426, _, none⟩) NB421_426.out _).trans (((cell_far (p := ⟨gb426, _, none⟩) NB421_426.out _).trans (hHeld.1)))), ((cell_far (p := ⟨gb426, _, none⟩) NB421_426.out _).trans (((cell_far (p := ⟨gb426, _, none⟩) NB421_426.out _).trans (hHeld.2.1)))), ((cell_far (p := ⟨gb426, _, none⟩) (by first | exact Kd.own_blk (Kd.R_away HO_3.out (fun _ hk => hk.2.2.2)) | (rw [add_block]; exact Kd.own_blk (Kd.R_away HO_3.out (fun _ hk => hk.2.2.2))) | (show (Addr.add _ _).block ≠ _; rw [add_block]; exact Kd.own_blk (Kd.R_away HO_3.out (fun _ hk => hk.2.2.2))) | (dsimp only; exact Kd.own_blk (Kd.R_away HO_3.out (fun _ hk => hk.2.2.2)))) _).trans (((cell_far (p := ⟨gb426, _, none⟩) (by first | exact Kd.own_blk (Kd.R_away HO_3.out (fun _ hk => hk.2.2.2)) | (rw [add_block]; exact Kd.own_blk (Kd.R_away HO_3.out (fun _ hk => hk.2.2.2))) | (show (Addr.add _ _).block ≠ _; rw [add_block]; exact Kd.own_blk (Kd.R_away HO_3.out (fun _ hk => hk.2.2.2))) | (dsimp only; exact Kd.own_blk (Kd.R_away HO_3.out (fun _ hk => hk.2.2.2)))) _).trans (hHeld.2.2.1)))), ((cell_far (p := ⟨gb426, _, none⟩) (by first | exact Kd.own_blk (Kd.R_away HO_3.out (fun _ hk => hk.2.2.2)) | (rw [add_block]; exact Kd.own_blk (Kd.R_away HO_3.out (fun _ hk => hk.2.2.2))) | (show (Addr.add _ _).block ≠ _; rw [add_block]; exact Kd.own_blk (Kd.R_away HO_3.out (fun _ hk => hk.2.2.2))) | (dsimp only; exact Kd.own_blk (Kd.R_away HO_3.out (fun _ hk => hk.2.2.2)))) _).trans (((cell_far (p := ⟨gb426, _, none⟩) (by first | exact Kd.own_blk (Kd.R_away HO_3.out (fun _ hk => hk.2.2.2)) | (rw [add_block]; exact Kd.own_blk (Kd.R_away HO_3.out (fun _ hk => hk.2.2.2))) | (show (Addr.add _ _).block ≠ _; rw [add_block]; exact Kd.own_blk (Kd.R_away HO_3.out (fun _ hk => hk.2.2.2))) | (dsimp only; exact Kd.own_blk (Kd.R_away HO_3.out (fun _ hk => hk.2.2.2)))) _).trans (hHeld.2.2.2))))⟩ (fun hHeld => ?_)
            clear hK K
            refine pure_ (i := 12) (N := some 15) (v := ?_) (a' := ?_) #[true, true, true, true, true, true, true, true, true, true, true, true, true] rfl rfl (any_of HT_.out (by kernel_rfl)) (fun _ _ _ h => h) (Or.inl ⟨by rfl, ?_⟩) ?_ ?_
            rotate_left
            ·
             intro w'
             go_simp
             with_reducible rfl
            rotate_left
            ·
             simp only [Act.put, sa_, sb_, sc_, i64_w, i32_w]
             rfl
            refine done_ (done_of HT_.out (by kernel_rfl)) ?_
            try go_wp2
            go_ret
            exact ⟨by first | rfl | (simp [errW_none, errW_some] <;> rfl) | (simp only [← hji39]; first | rfl | (simp [errW_none, errW_some] <;> rfl)) | (simp [*, errW_none, errW_some] <;> rfl), by repeat (first | (with_reducible first | exact HB.out | apply below_alloc | apply pw_below_drewN | apply below_drew1 | refine below_set ?_ GE411.out | refine below_set ?_ GE415.out | refine below_set ?_ GE421.out | refine below_set ?_ GE426.out) | exact HB.out)⟩
          ·
           replace c43 := Bool.eq_false_iff.mpr c43
           subst c43
           have H1 : (some true) = some r := by rw [if_neg (show ¬ (false = true) by decide)] at H; exact H
           clear H
           have H := H1
           clear H1
           obtain rfl := Option.some.inj H
           have hnb96 := NB411_415.out
           have hnc96 := NB415_411.out
           have hcz97_0 : wr.cell? ⟨gb411, 0, none⟩ = some (.int .i64 t408) := (blk_cell BK411.out 0).trans rfl
           have hcz97_1 : wr.cell? ⟨gb411, 1, none⟩ = some (.int .i64 t409) := (blk_cell BK411.out 1).trans rfl
           have hfz97_0 := blk_frozen BK411.out 0
           have hfz97_1 := blk_frozen BK411.out 1
           try go_wp2_with (first | ((with_reducible refine gate_callee (f := 14) rfl ?_); refine goesL_ (some 80) rfl rfl Tryd.func14 (by kernel_rfl) rfl #[.agg #[.int .i64 t408, .int .i64 t409], .agg #[.int .i64 x9_2, .int .i64 x10_2]] rfl (by (try simp only [List.map_toArray, List.map_cons, List.map_nil]); first | done | rfl | (simp only [List.length_drop, List.length_take]; rfl)) ?_; (with_reducible refine (impl_MulRange.calls t408 t409 x9_2 x10_2 t418 t419 false _ ?side1 A38.out).mono ?_); (case side1 => first | exact HTab.out | exact Tab.below HTab.out (bl_ HB)); rintro e w98 ⟨rfl, hb⟩; refine ⟨_, rfl, ?_⟩; have n0_ := Aside0.mk (Kd.R_below (kr_ HO_3) hb); have n1_ := Aside0.mk (blk_below (g := gb411) (o := .cells #[.int .i64 t408, .int .i64 t409] 30 (0, 0)) (bk_ BK411) hb); have n2_ := Aside0.mk (blk_below (g := gb415) (o := .cells #[.int .i64 t412, .int .i64 t413] 30 (0, 0)) (bk_ BK415) hb); have n3_ := Aside0.mk (below_step (bl_ HB) hb); clear HO_3; clear BK411; clear BK415; clear HB; have HO_3 := n0_; have BK411 := n1_; have BK415 := n2_; have HB := n3_; clear n0_ n1_ n2_ n3_; (try clear hb); (try clear hb2); (try clear hk); (try clear hi)) | ((with_reducible refine gate_dst (N := 12) rfl ?_); refine box_event ?hg (N := 12) ?hd (cs := #[.int .i64 0, .int .i64 0]) (t := 30) ?hr ?_; (case hd => rfl); (case hg => rfl); (case hr => first | (go_simp; done) | (go_simp; rfl)); intro gb421 hg w99 hbox hb; have n0_ := Aside0.mk (Kd.R_below (Kd.R_elderB (kr_ HO_3) gb421 (Nat.le_of_eq hg.symm)) hb); have n1_ := Aside0.mk (blk_below (g := gb411) (o := .cells #[.int .i64 t408, .int .i64 t409] 30 (0, 0)) (bk_ BK411) hb); have n2_ := Aside0.mk (blk_below (g := gb415) (o := .cells #[.int .i64 t412, .int .i64 t413] 30 (0, 0)) (bk_ BK415) hb); have n3_ := Aside0.mk (below_step (bl_ HB) hb); have n4_ := Aside0.mk (hbox); have n5_ := Aside0.mk ((by rw [hg]; exact (below_size (bl_ HB)) : w.heap.size ≤ gb421)); have n6_ := Aside0.mk ((by rw [hg]; exact (below_size (bl_ HB)) : w.heap.size ≤ gb421)); have n7_ := Aside0.mk ((by rw [hg]; exact Nat.ne_of_lt (blk_lt (g := gb411) (o := .cells #[.int .i64 t408, .int .i64 t409] 30 (0, 0)) (bk_ BK411)) : gb411 ≠ gb421)); have n8_ := Aside0.mk ((by rw [hg]; exact Nat.ne_of_gt (blk_lt (g := gb411) (o := .cells #[.int .i64 t408, .int .i64 t409] 30 (0, 0)) (bk_ BK411)) : gb421 ≠ gb411)); have n9_ := Aside0.mk ((by rw [hg]; exact Nat.ne_of_lt (blk_lt (g := gb415) (o := .cells #[.int .i64 t412, .int .i64 t413] 30 (0, 0)) (bk_ BK415)) : gb415 ≠ gb421)); have n10_ := Aside0.mk ((by rw [hg]; exact Nat.ne_of_gt (blk_lt (g := gb415) (o := .cells #[.int .i64 t412, .int .i64 t413] 30 (0, 0)) (bk_ BK415)) : gb421 ≠ gb415)); clear HO_3; clear BK411; clear BK415; clear HB; have HO_3 := n0_; have BK411 := n1_; have BK415 := n2_; have HB := n3_; have BK421 := n4_; have GW421 := n5_; have GE421 := n6_; have NB411_421 := n7_; have NB421_411 := n8_; have NB415_421 := n9_; have NB421_415 := n10_; clear n0_ n1_ n2_ n3_ n4_ n5_ n6_ n7_ n8_ n9_ n10_; clear hb hbox hg; have hnb100 := NB421_411.out; have hnc100 := NB411_421.out; have hnb101 := NB421_415.out; have hnc101 := NB415_421.out; have hcz102_0 : w99.cell? ⟨gb421, 0, none⟩ = some (.int .i64 0) := (blk_cell BK421.out 0).trans rfl; have hcz102_1 : w99.cell? ⟨gb421, 1, none⟩ = some (.int .i64 0) := (blk_cell BK421.out 1).trans rfl; have hfz102_0 := blk_frozen BK421.out 0; have hfz102_1 := blk_frozen BK421.out 1))
           have n0_ : Aside0 (Kd.R k30 30 ((w99.setCell ⟨gb421, 0, none⟩ (.int .i64 t418)).setCell ⟨gb421, 1, none⟩ (.int .i64 t419)) w.heap.size (fun k_ => k_ ≠ gb411 ∧ k_ ≠ gb415 ∧ k_ ≠ gb421) (.slice Ao8 t404.length co8) t404) := ⟨by (with_reducible repeat (first | apply Kd.R_alloc | apply Kd.R_drewN | apply Kd.R_drew)); exact Kd.R_mono (Kd.R_far (p := ⟨gb421, 1, none⟩) (Kd.R_far (p := ⟨gb421, 0, none⟩) (Kd.R_mono HO_3.out (fun k_ hk => (⟨hk, hk.2⟩ : _ ∧ k_ ≠ gb421))) (fun _ hk => hk.2) (.int .i64 t418)) (fun _ hk => hk.2) (.int .i64 t419)) (fun _ hk => ⟨hk.1.1.1, ⟨hk.1.1.2, hk.1.2⟩⟩)⟩
           have n1_ : Aside0 (((w99.setCell ⟨gb421, 0, none⟩ (.int .i64 t418)).setCell ⟨gb421, 1, none⟩ (.int .i64 t419)).heap[gb411]? = some (.cells #[.int .i64 t408, .int .i64 t409] 30 (0, 0))) := ⟨by (with_reducible repeat (first | refine blk_drewN ?_ _ | refine blk_drew ?_ | refine blk_alloc ?_ _)); refine blk_far ?_ NB411_421.out _; (with_reducible repeat (first | refine blk_drewN ?_ _ | refine blk_drew ?_ | refine blk_alloc ?_ _)); refine blk_far ?_ NB411_421.out _; (with_reducible repeat (first | refine blk_drewN ?_ _ | refine blk_drew ?_ | refine blk_alloc ?_ _)); exact BK411.out⟩
           have n2_ : Aside0 (((w99.setCell ⟨gb421, 0, none⟩ (.int .i64 t418)).setCell ⟨gb421, 1, none⟩ (.int .i64 t419)).heap[gb415]? = some (.cells #[.int .i64 t412, .int .i64 t413] 30 (0, 0))) := ⟨by (with_reducible repeat (first | refine blk_drewN ?_ _ | refine blk_drew ?_ | refine blk_alloc ?_ _)); refine blk_far ?_ NB415_421.out _; (with_reducible repeat (first | refine blk_drewN ?_ _ | refine blk_drew ?_ | refine blk_alloc ?_ _)); refine blk_far ?_ NB415_421.out _; (with_reducible repeat (first | refine blk_drewN ?_ _ | refine blk_drew ?_ | refine blk_alloc ?_ _)); exact BK415.out⟩
           have n3_ : Aside0 (((w99.setCell ⟨gb421, 0, none⟩ (.int .i64 t418)).setCell ⟨gb421, 1, none⟩ (.int .i64 t419)).heap[gb421]? = some (.cells #[.int .i64 t418, .int .i64 t419] 30 (0, 0))) := ⟨by (with_reducible repeat (first | refine blk_drewN ?_ _ | refine blk_drew ?_ | refine blk_alloc ?_ _)); refine blk_put (cs := #[.int .i64 t418, .int .i64 0]) ?_ 1 _ rfl; (with_reducible repeat (first | refine blk_drewN ?_ _ | refine blk_drew ?_ | refine blk_alloc ?_ _)); refine blk_put (cs := #[.int .i64 0, .int .i64 0]) ?_ 0 _ rfl; (with_reducible repeat (first | refine blk_drewN ?_ _ | refine blk_drew ?_ | refine blk_alloc ?_ _)); exact BK421.out⟩
           have n4_ : Aside0 (Below w.heap.size w ((w99.setCell ⟨gb421, 0, none⟩ (.int .i64 t418)).setCell ⟨gb421, 1, none⟩ (.int .i64 t419))) := ⟨by repeat (first | (with_reducible first | exact HB.out | apply below_alloc | apply pw_below_drewN | apply below_drew1 | refine below_set ?_ GE411.out | refine below_set ?_ GE415.out | refine below_set ?_ GE421.out) | exact HB.out)⟩
           (try clear HO_3)
           (try clear BK411)
           (try clear BK415)
           (try clear BK421)
           (try clear HB)
           generalize ((w99.setCell ⟨gb421, 0, none⟩ (.int .i64 t418)).setCell ⟨gb421, 1, none⟩ (.int .i64 t419)) = w103 at n0_ n1_ n2_ n3_ n4_ ⊢
           have HO_3 := n0_
           have BK411 := n1_
           have BK415 := n2_
           have BK421 := n3_
           have HB := n4_
           clear n0_ n1_ n2_ n3_ n4_
           have n0_ := Aside0.mk (Kd.R_drew HO_3.out)
           have n1_ := Aside0.mk (blk_drew BK411.out)
           have n2_ := Aside0.mk (blk_drew BK415.out)
           have n3_ := Aside0.mk (blk_drew BK421.out)
           have n4_ := Aside0.mk (below_drew1 HB.out)
           clear HO_3
           clear BK411
           clear BK415
           clear BK421
           clear HB
           have HO_3 := n0_
           have BK411 := n1_
           have BK415 := n2_
           have BK421 := n3_
           have HB := n4_
           clear n0_ n1_ n2_ n3_ n4_
           have p422 : 0 ≤ ((ji39) : Int) := of_decide_eq_true (by first | (with_reducible assumption) | assumption)
           have q422 : (ji39) < (t404.length : Int) := of_decide_eq_true (by first | (with_reducible assumption) | assumption)
           obtain ⟨ad422, e422, hx422_0, hx422_1⟩ := at_T30 (Kd.R_reads' HO_3.out).2.2 (ji39) p422 q422
           cases e422
           replace p422 := eq_true p422
           replace q422 := eq_true q422
           refine start_ (n := 13) (S := fun w' => w'.cell? ⟨gb421, 0, none⟩ = some (.int .i64 t418) ∧ w'.cell? ⟨gb421, 1, none⟩ = some (.int .i64 t419) ∧ w'.cell? (ad422.add (((ji39)).toNat * 2)) = some (.int .i64 ((rd_T30 t404 (ji39)).f0)) ∧ w'.cell? ⟨(ad422.add (((ji39)).toNat * 2)).block, (ad422.add (((ji39)).toNat * 2)).off + 1, none⟩ = some (.int .i64 ((rd_T30 t404 (ji39)).f1))) (ds := []) #[false, false, false, false, false, false, false, false, false, false, false, false, false] (by kernel_rfl) rfl rfl ⟨(blk_cell BK421.out 0).trans rfl, (blk_cell BK421.out 1).trans rfl, hx422_0, hx422_1⟩ (fun hHeld => ?_); refine with_tabW laws_FnSwapRate.tab16 laws_FnSwapRate.bits16 (fun HT_ HW_ => ?_)
           generalize w103.drew = w104 at HO_3 BK411 BK415 BK421 HB hx422_0 hx422_1 hHeld ⊢
           refine pure_ (i := 1) (N := some 85) (v := ?_) (a' := ?_) #[false, true, false, false, false, false, false, false, false, false, false, false, false] rfl rfl (any_of HT_.out (by kernel_rfl)) (fun _ _ _ h => h) (Or.inl ⟨by rfl, ?_⟩) ?_ ?_
           rotate_left
           ·
            intro w'
            go_simp
            with_reducible rfl
           rotate_left
           ·
            simp only [Act.put, sa_, sb_, sc_, i64_w, i32_w]
            rfl
           refine pure_ (i := 2) (N := some 86) (v := ?_) (a' := ?_) #[false, true, true, false, false, false, false, false, false, false, false, false, false] rfl rfl (any_of HT_.out (by kernel_rfl)) (fun _ _ _ h => h) (Or.inl ⟨by rfl, ?_⟩) ?_ ?_
           rotate_left
           ·
            intro w'
            go_simp
            with_reducible rfl
           rotate_left
           ·
            simp only [Act.put, sa_, sb_, sc_, i64_w, i32_w]
            rfl
           refine pure_ (i := 3) (N := some 87) (v := ?_) (a' := ?_) #[false, true, true, true, false, false, false, false, false, false, false, false, false] rfl rfl (any_of HT_.out (by kernel_rfl)) (fun _ _ _ h => h) (Or.inl ⟨by rfl, ?_⟩) ?_ ?_
           rotate_left
           ·
            intro w'
            go_simp
            with_reducible rfl
           rotate_left
           ·
            simp only [Act.put, sa_, sb_, sc_, i64_w, i32_w]
            rfl
           refine pure_ (i := 4) (N := some 88) (v := ?_) (a' := ?_) #[false, true, true, true, true, false, false, false, false, false, false, false, false] rfl rfl (any_of HT_.out (by kernel_rfl)) (fun _ _ _ h => h) (Or.inl ⟨by rfl, ?_⟩) ?_ ?_
           rotate_left
           ·
            intro w'
            go_simp
            with_reducible rfl
           rotate_left
           ·
            simp only [Act.put, sa_, sb_, sc_, i64_w, i32_w]
            rfl
           refine take_ (i := 0) (N := some 84) (v := ?_) (a' := ?_) #[true, true, true, true, true, false, false, false, false, false, false, false, false] rfl rfl (take_ofW HT_.out HW_.out (by kernel_rfl)) (fun _ _ _ h => h) (Or.inl ⟨by rfl, ?_⟩) hHeld ?_ ?_
           rotate_left
           ·
            rintro w' ⟨s0, s1, s2, s3⟩
            go_simp
            with_reducible rfl
           rotate_left
           ·
            simp only [Act.put, sa_, sb_, sc_, i64_w, i32_w]
            rfl
           refine take_ (i := 5) (N := some 89) (v := ?_) (a' := ?_) #[true, true, true, true, true, true, false, false, false, false, false, false, false] rfl rfl (take_ofW HT_.out HW_.out (by kernel_rfl)) (fun _ _ _ h => h) (Or.inl ⟨by rfl, ?_⟩) hHeld ?_ ?_
           rotate_left
           ·
            rintro w' ⟨s0, s1, s2, s3⟩
            go_simp
            with_reducible rfl
           rotate_left
           ·
            simp only [Act.put, sa_, sb_, sc_, i64_w, i32_w]
            rfl
           refine join_ (σ := Nat) 2 #[true, true, true, true, true, true, true, true, true, true, true, false, false] (fun s_ => [(90, .tuple #[.agg #[.int .i64 t423, .int .i64 t424], .bool t425]), (14, .pointer (some ⟨s_, 0, none⟩)), (83, .tuple #[.agg #[.int .i64 t423, .int .i64 t424], .bool t425]), (91, .agg #[.int .i64 t423, .int .i64 t424]), (92, .bool t425)]) (fun s_ w' => (w'.cell? ⟨gb421, 0, none⟩ = some (.int .i64 t418) ∧ w'.cell? ⟨gb421, 1, none⟩ = some (.int .i64 t419) ∧ w'.cell? (ad422.add (((ji39)).toNat * 2)) = some (.int .i64 ((rd_T30 t404 (ji39)).f0)) ∧ w'.cell? ⟨(ad422.add (((ji39)).toNat * 2)).block, (ad422.add (((ji39)).toNat * 2)).off + 1, none⟩ = some (.int .i64 ((rd_T30 t404 (ji39)).f1))) ∧ (Kd.R k30 30 w' w.heap.size (fun k_ => k_ ≠ gb411 ∧ k_ ≠ gb415 ∧ k_ ≠ gb421 ∧ k_ ≠ s_) (.slice (some ad422) t404.length co8) t404) ∧ (w'.heap[gb411]? = some (.cells #[.int .i64 t408, .int .i64 t409] 30 (0, 0))) ∧ (w'.heap[gb415]? = some (.cells #[.int .i64 t412, .int .i64 t413] 30 (0, 0))) ∧ (w'.heap[gb421]? = some (.cells #[.int .i64 t418, .int .i64 t419] 30 (0, 0))) ∧ (w'.heap[s_]? = some (.cells #[.int .i64 0, .int .i64 0] 30 (0, 0))) ∧ (w.heap.size ≤ s_) ∧ (w.heap.size ≤ s_) ∧ (gb411 ≠ s_) ∧ (s_ ≠ gb411) ∧ (gb415 ≠ s_) ∧ (s_ ≠ gb415) ∧ (gb421 ≠ s_) ∧ (s_ ≠ gb421) ∧ (Below w.heap.size w w')) ?_ ?_
           rotate_left
           ·
            intro hCont
            refine two_ (i := 6) (j := 10) (Ni := some 90) (Nj := some 14) #[true, true, true, true, true, true, true, false, false, false, false, false, false] #[true, true, true, true, true, true, false, false, false, false, true, false, false] rfl rfl rfl rfl (two_of HT_.out (by kernel_rfl)) (by decide) (by decide) (fun K hK => ?_) (fun K hK => ?_)
            ·
             skip
             refine goes_ Tryd.func15 (by kernel_rfl) rfl #[.agg #[.int .i64 t418, .int .i64 t419], .agg #[.int .i64 ((rd_T30 t404 (ji39)).f0), .int .i64 ((rd_T30 t404 (ji39)).f1)]] (by rfl) rfl rfl (by (try simp only [List.map_toArray, List.map_cons, List.map_nil]); first | done | (simp only [hji39]; rfl) | rfl | (simp only [List.length_drop, List.length_take]; rfl)) ?_
             with_reducible refine (impl_AddRange.calls t418 t419 ((rd_T30 t404 (ji39)).f0) ((rd_T30 t404 (ji39)).f1) t423 t424 t425 _ ?side1 A42.out).mono ?_
             (case side1 => first | exact HTab.out | exact Tab.below HTab.out (bl_ HB))
             rintro e w105 ⟨rfl, hb⟩
             have HS2_ := (hb.cell (World.block_lt_of_cell? _ _ (hHeld.2.2.1))).trans (hHeld.2.2.1)
             have HS3_ := (hb.cell (World.block_lt_of_cell? _ _ (hHeld.2.2.2))).trans (hHeld.2.2.2)
             refine ⟨_, rfl, ?_⟩
             have n0_ := Aside0.mk (Kd.R_below (kr_ HO_3) hb)
             have n1_ := Aside0.mk (blk_below (g := gb411) (o := .cells #[.int .i64 t408, .int .i64 t409] 30 (0, 0)) (bk_ BK411) hb)
             have n2_ := Aside0.mk (blk_below (g := gb415) (o := .cells #[.int .i64 t412, .int .i64 t413] 30 (0, 0)) (bk_ BK415) hb)
             have n3_ := Aside0.mk (blk_below (g := gb421) (o := .cells #[.int .i64 t418, .int .i64 t419] 30 (0, 0)) (bk_ BK421) hb)
             have n4_ := Aside0.mk (below_step (bl_ HB) hb)
             clear HO_3
             clear BK411
             clear BK415
             clear BK421
             clear HB
             have HO_3 := n0_
             have BK411 := n1_
             have BK415 := n2_
             have BK421 := n3_
             have HB := n4_
             clear n0_ n1_ n2_ n3_ n4_
             (try clear hb)
             (try clear hb2)
             (try clear hk)
             (try clear hi)
             refine hK.out _ _ ⟨(blk_cell BK421.out 0).trans rfl, (blk_cell BK421.out 1).trans rfl, HS2_, HS3_⟩ (fun hHeld => ?_)
             clear hK K
             refine norm_ (a' := ?_) ?_ ?_
             rotate_left
             ·
              show Act.put _ (some 90) _ = _
              simp only [Act.put, sa_, sb_, sc_, i64_w, i32_w]
              rfl
             refine pure_ (i := 7) (N := some 83) (v := ?_) (a' := ?_) #[true, true, true, true, true, true, true, true, false, false, false, false, false] rfl rfl (any_of HT_.out (by kernel_rfl)) (fun _ _ _ h => h) (Or.inl ⟨by rfl, ?_⟩) ?_ ?_
             rotate_left
             ·
              intro w'
              go_simp
              with_reducible rfl
             rotate_left
             ·
              simp only [Act.put, sa_, sb_, sc_, i64_w, i32_w]
              rfl
             refine pure_ (i := 8) (N := some 91) (v := ?_) (a' := ?_) #[true, true, true, true, true, true, true, true, true, false, false, false, false] rfl rfl (any_of HT_.out (by kernel_rfl)) (fun _ _ _ h => h) (Or.inl ⟨by rfl, ?_⟩) ?_ ?_
             rotate_left
             ·
              intro w'
              go_simp
              with_reducible rfl
             rotate_left
             ·
              simp only [Act.put, sa_, sb_, sc_, i64_w, i32_w]
              rfl
             refine pure_ (i := 9) (N := some 92) (v := ?_) (a' := ?_) #[true, true, true, true, true, true, true, true, true, true, false, false, false] rfl rfl (any_of HT_.out (by kernel_rfl)) (fun _ _ _ h => h) (Or.inl ⟨by rfl, ?_⟩) ?_ ?_
             rotate_left
             ·
              intro w'
              go_simp
              with_reducible rfl
             rotate_left
             ·
              simp only [Act.put, sa_, sb_, sc_, i64_w, i32_w]
              rfl
             refine one_ (i := 10) (N := some 14) #[true, true, true, true, true, true, true, true, true, true, true, false, false] rfl rfl (one_of HT_.out (by kernel_rfl)) (by decide) (fun K hK => ?_)
             refine box_step ?hg (N := 14) ?hd (cs := #[.int .i64 0, .int .i64 0]) (t := 30) ?hr ?_; (case hd => rfl); (case hg => rfl); (case hr => first | (go_simp; done) | (go_simp; rfl))
             intro gb426 hg w106 hbox hb
             have HS2_ := (hb.cell (World.block_lt_of_cell? _ _ (hHeld.2.2.1))).trans (hHeld.2.2.1)
             have HS3_ := (hb.cell (World.block_lt_of_cell? _ _ (hHeld.2.2.2))).trans (hHeld.2.2.2)
             have n0_ := Aside0.mk (Kd.R_below (Kd.R_elderB (kr_ HO_3) gb426 (Nat.le_of_eq hg.symm)) hb)
             have n1_ := Aside0.mk (blk_below (g := gb411) (o := .cells #[.int .i64 t408, .int .i64 t409] 30 (0, 0)) (bk_ BK411) hb)
             have n2_ := Aside0.mk (blk_below (g := gb415) (o := .cells #[.int .i64 t412, .int .i64 t413] 30 (0, 0)) (bk_ BK415) hb)
             have n3_ := Aside0.mk (blk_below (g := gb421) (o := .cells #[.int .i64 t418, .int .i64 t419] 30 (0, 0)) (bk_ BK421) hb)
             have n4_ := Aside0.mk (below_step (bl_ HB) hb)
             have n5_ := Aside0.mk (hbox)
             have n6_ := Aside0.mk ((by rw [hg]; exact (below_size (bl_ HB)) : w.heap.size ≤ gb426))
             have n7_ := Aside0.mk ((by rw [hg]; exact (below_size (bl_ HB)) : w.heap.size ≤ gb426))
             have n8_ := Aside0.mk ((by rw [hg]; exact Nat.ne_of_lt (blk_lt (g := gb411) (o := .cells #[.int .i64 t408, .int .i64 t409] 30 (0, 0)) (bk_ BK411)) : gb411 ≠ gb426))
             have n9_ := Aside0.mk ((by rw [hg]; exact Nat.ne_of_gt (blk_lt (g := gb411) (o := .cells #[.int .i64 t408, .int .i64 t409] 30 (0, 0)) (bk_ BK411)) : gb426 ≠ gb411))
             have n10_ := Aside0.mk ((by rw [hg]; exact Nat.ne_of_lt (blk_lt (g := gb415) (o := .cells #[.int .i64 t412, .int .i64 t413] 30 (0, 0)) (bk_ BK415)) : gb415 ≠ gb426))
             have n11_ := Aside0.mk ((by rw [hg]; exact Nat.ne_of_gt (blk_lt (g := gb415) (o := .cells #[.int .i64 t412, .int .i64 t413] 30 (0, 0)) (bk_ BK415)) : gb426 ≠ gb415))
             have n12_ := Aside0.mk ((by rw [hg]; exact Nat.ne_of_lt (blk_lt (g := gb421) (o := .cells #[.int .i64 t418, .int .i64 t419] 30 (0, 0)) (bk_ BK421)) : gb421 ≠ gb426))
             have n13_ := Aside0.mk ((by rw [hg]; exact Nat.ne_of_gt (blk_lt (g := gb421) (o := .cells #[.int .i64 t418, .int .i64 t419] 30 (0, 0)) (bk_ BK421)) : gb426 ≠ gb421))
             clear HO_3
             clear BK411
             clear BK415
             clear BK421
             clear HB
             have HO_3 := n0_
             have BK411 := n1_
             have BK415 := n2_
             have BK421 := n3_
             have HB := n4_
             have BK426 := n5_
             have GW426 := n6_
             have GE426 := n7_
             have NB411_426 := n8_
             have NB426_411 := n9_
             have NB415_426 := n10_
             have NB426_415 := n11_
             have NB421_426 := n12_
             have NB426_421 := n13_
             clear n0_ n1_ n2_ n3_ n4_ n5_ n6_ n7_ n8_ n9_ n10_ n11_ n12_ n13_
             clear hb hbox hg
             refine hK.out _ _ ⟨(blk_cell BK421.out 0).trans rfl, (blk_cell BK421.out 1).trans rfl, HS2_, HS3_⟩ (fun hHeld => ?_)
             clear hK K
             refine norm_ (a' := ?_) ?_ ?_
             rotate_left
             ·
              show Act.put _ (some 14) _ = _
              simp only [Act.put, sa_, sb_, sc_, i64_w, i32_w]
              rfl
             exact norm_ (by simp only [putAll, Act.put, sa_, sb_, sc_]) (hCont (gb426) _ ⟨hHeld, (by (with_reducible repeat (first | apply Kd.R_alloc | apply Kd.R_drewN | apply Kd.R_drew)); exact Kd.R_mono HO_3.out (fun _ hk => ⟨hk.1.1, ⟨hk.1.2.1, ⟨hk.1.2.2, hk.2⟩⟩⟩)), (bk_ BK411), (bk_ BK415), (bk_ BK421), (bk_ BK426), GW426.out, GE426.out, NB411_426.out, NB426_411.out, NB415_426.out, NB426_415.out, NB421_426.out, NB426_421.out, (bl_ HB)⟩)
            ·
             skip
             refine box_step ?hg (N := 14) ?hd (cs := #[.int .i64 0, .int .i64 0]) (t := 30) ?hr ?_; (case hd => rfl); (case hg => rfl); (case hr => first | (go_simp; done) | (go_simp; rfl))
             intro gb426 hg w105 hbox hb
             have HS2_ := (hb.cell (World.block_lt_of_cell? _ _ (hHeld.2.2.1))).trans (hHeld.2.2.1)
             have HS3_ := (hb.cell (World.block_lt_of_cell? _ _ (hHeld.2.2.2))).trans (hHeld.2.2.2)
             have n0_ := Aside0.mk (Kd.R_below (Kd.R_elderB (kr_ HO_3) gb426 (Nat.le_of_eq hg.symm)) hb)
             have n1_ := Aside0.mk (blk_below (g := gb411) (o := .cells #[.int .i64 t408, .int .i64 t409] 30 (0, 0)) (bk_ BK411) hb)
             have n2_ := Aside0.mk (blk_below (g := gb415) (o := .cells #[.int .i64 t412, .int .i64 t413] 30 (0, 0)) (bk_ BK415) hb)
             have n3_ := Aside0.mk (blk_below (g := gb421) (o := .cells #[.int .i64 t418, .int .i64 t419] 30 (0, 0)) (bk_ BK421) hb)
             have n4_ := Aside0.mk (below_step (bl_ HB) hb)
             have n5_ := Aside0.mk (hbox)
             have n6_ := Aside0.mk ((by rw [hg]; exact (below_size (bl_ HB)) : w.heap.size ≤ gb426))
             have n7_ := Aside0.mk ((by rw [hg]; exact (below_size (bl_ HB)) : w.heap.size ≤ gb426))
             have n8_ := Aside0.mk ((by rw [hg]; exact Nat.ne_of_lt (blk_lt (g := gb411) (o := .cells #[.int .i64 t408, .int .i64 t409] 30 (0, 0)) (bk_ BK411)) : gb411 ≠ gb426))
             have n9_ := Aside0.mk ((by rw [hg]; exact Nat.ne_of_gt (blk_lt (g := gb411) (o := .cells #[.int .i64 t408, .int .i64 t409] 30 (0, 0)) (bk_ BK411)) : gb426 ≠ gb411))
             have n10_ := Aside0.mk ((by rw [hg]; exact Nat.ne_of_lt (blk_lt (g := gb415) (o := .cells #[.int .i64 t412, .int .i64 t413] 30 (0, 0)) (bk_ BK415)) : gb415 ≠ gb426))
             have n11_ := Aside0.mk ((by rw [hg]; exact Nat.ne_of_gt (blk_lt (g := gb415) (o := .cells #[.int .i64 t412, .int .i64 t413] 30 (0, 0)) (bk_ BK415)) : gb426 ≠ gb415))
             have n12_ := Aside0.mk ((by rw [hg]; exact Nat.ne_of_lt (blk_lt (g := gb421) (o := .cells #[.int .i64 t418, .int .i64 t419] 30 (0, 0)) (bk_ BK421)) : gb421 ≠ gb426))
             have n13_ := Aside0.mk ((by rw [hg]; exact Nat.ne_of_gt (blk_lt (g := gb421) (o := .cells #[.int .i64 t418, .int .i64 t419] 30 (0, 0)) (bk_ BK421)) : gb426 ≠ gb421))
             clear HO_3
             clear BK411
             clear BK415
             clear BK421
             clear HB
             have HO_3 := n0_
             have BK411 := n1_
             have BK415 := n2_
             have BK421 := n3_
             have HB := n4_
             have BK426 := n5_
             have GW426 := n6_
             have GE426 := n7_
             have NB411_426 := n8_
             have NB426_411 := n9_
             have NB415_426 := n10_
             have NB426_415 := n11_
             have NB421_426 := n12_
             have NB426_421 := n13_
             clear n0_ n1_ n2_ n3_ n4_ n5_ n6_ n7_ n8_ n9_ n10_ n11_ n12_ n13_
             clear hb hbox hg
             refine hK.out _ _ ⟨(blk_cell BK421.out 0).trans rfl, (blk_cell BK421.out 1).trans rfl, HS2_, HS3_⟩ (fun hHeld => ?_)
             clear hK K
             refine norm_ (a' := ?_) ?_ ?_
             rotate_left
             ·
              show Act.put _ (some 14) _ = _
              simp only [Act.put, sa_, sb_, sc_, i64_w, i32_w]
              rfl
             refine one_ (i := 6) (N := some 90) #[true, true, true, true, true, true, true, false, false, false, true, false, false] rfl rfl (one_of HT_.out (by kernel_rfl)) (by decide) (fun K hK => ?_)
             refine goes_ Tryd.func15 (by kernel_rfl) rfl #[.agg #[.int .i64 t418, .int .i64 t419], .agg #[.int .i64 ((rd_T30 t404 (ji39)).f0), .int .i64 ((rd_T30 t404 (ji39)).f1)]] (by rfl) rfl rfl (by (try simp only [List.map_toArray, List.map_cons, List.map_nil]); first | done | (simp only [hji39]; rfl) | rfl | (simp only [List.length_drop, List.length_take]; rfl)) ?_
             with_reducible refine (impl_AddRange.calls t418 t419 ((rd_T30 t404 (ji39)).f0) ((rd_T30 t404 (ji39)).f1) t423 t424 t425 _ ?side1 A42.out).mono ?_
             (case side1 => first | exact HTab.out | exact Tab.below HTab.out (bl_ HB))
             rintro e w106 ⟨rfl, hb⟩
             have HS2_ := (hb.cell (World.block_lt_of_cell? _ _ (hHeld.2.2.1))).trans (hHeld.2.2.1)
             have HS3_ := (hb.cell (World.block_lt_of_cell? _ _ (hHeld.2.2.2))).trans (hHeld.2.2.2)
             refine ⟨_, rfl, ?_⟩
             have n0_ := Aside0.mk (Kd.R_below (kr_ HO_3) hb)
             have n1_ := Aside0.mk (blk_below (g := gb411) (o := .cells #[.int .i64 t408, .int .i64 t409] 30 (0, 0)) (bk_ BK411) hb)
             have n2_ := Aside0.mk (blk_below (g := gb415) (o := .cells #[.int .i64 t412, .int .i64 t413] 30 (0, 0)) (bk_ BK415) hb)
             have n3_ := Aside0.mk (blk_below (g := gb421) (o := .cells #[.int .i64 t418, .int .i64 t419] 30 (0, 0)) (bk_ BK421) hb)
             have n4_ := Aside0.mk (blk_below (g := gb426) (o := .cells #[.int .i64 0, .int .i64 0] 30 (0, 0)) (bk_ BK426) hb)
             have n5_ := Aside0.mk (below_step (bl_ HB) hb)
             clear HO_3
             clear BK411
             clear BK415
             clear BK421
             clear BK426
             clear HB
             have HO_3 := n0_
             have BK411 := n1_
             have BK415 := n2_
             have BK421 := n3_
             have BK426 := n4_
             have HB := n5_
             clear n0_ n1_ n2_ n3_ n4_ n5_
             (try clear hb)
             (try clear hb2)
             (try clear hk)
             (try clear hi)
             refine hK.out _ _ ⟨(blk_cell BK421.out 0).trans rfl, (blk_cell BK421.out 1).trans rfl, HS2_, HS3_⟩ (fun hHeld => ?_)
             clear hK K
             refine norm_ (a' := ?_) ?_ ?_
             rotate_left
             ·
              show Act.put _ (some 90) _ = _
              simp only [Act.put, sa_, sb_, sc_, i64_w, i32_w]
              rfl
             refine pure_ (i := 7) (N := some 83) (v := ?_) (a' := ?_) #[true, true, true, true, true, true, true, true, false, false, true, false, false] rfl rfl (any_of HT_.out (by kernel_rfl)) (fun _ _ _ h => h) (Or.inl ⟨by rfl, ?_⟩) ?_ ?_
             rotate_left
             ·
              intro w'
              go_simp
              with_reducible rfl
             rotate_left
             ·
              simp only [Act.put, sa_, sb_, sc_, i64_w, i32_w]
              rfl
             refine pure_ (i := 8) (N := some 91) (v := ?_) (a' := ?_) #[true, true, true, true, true, true, true, true, true, false, true, false, false] rfl rfl (any_of HT_.out (by kernel_rfl)) (fun _ _ _ h => h) (Or.inl ⟨by rfl, ?_⟩) ?_ ?_
             rotate_left
             ·
              intro w'
              go_simp
              with_reducible rfl
             rotate_left
             ·
              simp only [Act.put, sa_, sb_, sc_, i64_w, i32_w]
              rfl
             refine pure_ (i := 9) (N := some 92) (v := ?_) (a' := ?_) #[true, true, true, true, true, true, true, true, true, true, true, false, false] rfl rfl (any_of HT_.out (by kernel_rfl)) (fun _ _ _ h => h) (Or.inl ⟨by rfl, ?_⟩) ?_ ?_
             rotate_left
             ·
              intro w'
              go_simp
              with_reducible rfl
             rotate_left
             ·
              simp only [Act.put, sa_, sb_, sc_, i64_w, i32_w]
              rfl
             exact norm_ (by simp only [putAll, Act.put, sa_, sb_, sc_]) (hCont (gb426) _ ⟨hHeld, (by (with_reducible repeat (first | apply Kd.R_alloc | apply Kd.R_drewN | apply Kd.R_drew)); exact Kd.R_mono HO_3.out (fun _ hk => ⟨hk.1.1, ⟨hk.1.2.1, ⟨hk.1.2.2, hk.2⟩⟩⟩)), (bk_ BK411), (bk_ BK415), (bk_ BK421), (bk_ BK426), GW426.out, GE426.out, NB411_426.out, NB426_411.out, NB415_426.out, NB426_415.out, NB421_426.out, NB426_421.out, (bl_ HB)⟩)
           rintro gb426 w107 ⟨hS_, h0_, h1_, h2_, h3_, h4_, h5_, h6_, h7_, h8_, h9_, h10_, h11_, h12_, h13_⟩
           have n0_ : Aside0 (Kd.R k30 30 w107 w.heap.size (fun k_ => k_ ≠ gb411 ∧ k_ ≠ gb415 ∧ k_ ≠ gb421 ∧ k_ ≠ gb426) (.slice (some ad422) t404.length co8) t404) := ⟨h0_⟩
           have n1_ : Aside0 (w107.heap[gb411]? = some (.cells #[.int .i64 t408, .int .i64 t409] 30 (0, 0))) := ⟨h1_⟩
           have n2_ : Aside0 (w107.heap[gb415]? = some (.cells #[.int .i64 t412, .int .i64 t413] 30 (0, 0))) := ⟨h2_⟩
           have n3_ : Aside0 (w107.heap[gb421]? = some (.cells #[.int .i64 t418, .int .i64 t419] 30 (0, 0))) := ⟨h3_⟩
           have n4_ : Aside0 (w107.heap[gb426]? = some (.cells #[.int .i64 0, .int .i64 0] 30 (0, 0))) := ⟨h4_⟩
           have n5_ : Aside0 (w.heap.size ≤ gb426) := ⟨h5_⟩
           have n6_ : Aside0 (w.heap.size ≤ gb426) := ⟨h6_⟩
           have n7_ : Aside0 (gb411 ≠ gb426) := ⟨h7_⟩
           have n8_ : Aside0 (gb426 ≠ gb411) := ⟨h8_⟩
           have n9_ : Aside0 (gb415 ≠ gb426) := ⟨h9_⟩
           have n10_ : Aside0 (gb426 ≠ gb415) := ⟨h10_⟩
           have n11_ : Aside0 (gb421 ≠ gb426) := ⟨h11_⟩
           have n12_ : Aside0 (gb426 ≠ gb421) := ⟨h12_⟩
           have n13_ : Aside0 (Below w.heap.size w w107) := ⟨h13_⟩
           clear HO_3
           clear BK411
           clear BK415
           clear BK421
           clear HB
           clear h0_ h1_ h2_ h3_ h4_ h5_ h6_ h7_ h8_ h9_ h10_ h11_ h12_ h13_
           have HO_3 := n0_
           have BK411 := n1_
           have BK415 := n2_
           have BK421 := n3_
           have BK426 := n4_
           have GW426 := n5_
           have GE426 := n6_
           have NB411_426 := n7_
           have NB426_411 := n8_
           have NB415_426 := n9_
           have NB426_415 := n10_
           have NB421_426 := n11_
           have NB426_421 := n12_
           have HB := n13_
           clear n0_ n1_ n2_ n3_ n4_ n5_ n6_ n7_ n8_ n9_ n10_ n11_ n12_ n13_
           have hHeld : w107.cell? ⟨gb421, 0, none⟩ = some (.int .i64 t418) ∧ w107.cell? ⟨gb421, 1, none⟩ = some (.int .i64 t419) ∧ w107.cell? (ad422.add (((ji39)).toNat * 2)) = some (.int .i64 ((rd_T30 t404 (ji39)).f0)) ∧ w107.cell? ⟨(ad422.add (((ji39)).toNat * 2)).block, (ad422.add (((ji39)).toNat * 2)).off + 1, none⟩ = some (.int .i64 ((rd_T30 t404 (ji39)).f1)) := hS_
           refine norm_ (a' := ?_) ?_ ?_
           rotate_left
           ·
            simp only [putAll, Act.put, sa_, sb_, sc_]
            rfl
           refine one_ (i := 11) (N := none) #[true, true, true, true, true, true, true, true, true, true, true, true, false] rfl rfl (one_of HT_.out (by kernel_rfl)) (by decide) (fun K hK => ?_)
           have hs108 : w107.cell? ⟨gb426, 0, none⟩ = some (.int .i64 0) := (blk_cell BK426.out 0).trans rfl
           have hfs108 := blk_frozen BK426.out 0
           have hns108_0 := NB411_426.out
           have hns108_1 := NB415_426.out
           have hns108_2 := NB421_426.out
           have hms108_0 := NB426_411.out
           have hms108_1 := NB426_415.out
           have hms108_2 := NB426_421.out
           have hs109 : w107.cell? ⟨gb426, 1, none⟩ = some (.int .i64 0) := (blk_cell BK426.out 1).trans rfl
           have hfs109 := blk_frozen BK426.out 1
           have hns109_0 := NB411_426.out
           have hns109_1 := NB415_426.out
           have hns109_2 := NB421_426.out
           have hms109_0 := NB426_411.out
           have hms109_1 := NB426_415.out
           have hms109_2 := NB426_421.out
           refine skip_ (w1 := ?_) (by rfl) rfl ?_ ?_
           rotate_left
           ·
            go_simp
            rfl
           refine hK.out _ _ ⟨((cell_far (p := ⟨gb426, _, none⟩) NB421_426.out _).trans (((cell_far (p := ⟨gb426, _, none⟩) NB421_426.out _).trans (hHeld.1)))), ((cell_far (p := ⟨gb426, _, none⟩) NB421_426.out _).trans (((cell_far (p := ⟨gb426, _, none⟩) NB421_426.out _).trans (hHeld.2.1)))), ((cell_far (p := ⟨gb426, _, none⟩) (by first | exact Kd.own_blk (Kd.R_away HO_3.out (fun _ hk => hk.2.2.2)) | (rw [add_block]; exact Kd.own_blk (Kd.R_away HO_3.out (fun _ hk => hk.2.2.2))) | (show (Addr.add _ _).block ≠ _; rw [add_block]; exact Kd.own_blk (Kd.R_away HO_3.out (fun _ hk => hk.2.2.2))) | (dsimp only; exact Kd.own_blk (Kd.R_away HO_3.out (fun _ hk => hk.2.2.2)))) _).trans (((cell_far (p := ⟨gb426, _, none⟩) (by first | exact Kd.own_blk (Kd.R_away HO_3.out (fun _ hk => hk.2.2.2)) | (rw [add_block]; exact Kd.own_blk (Kd.R_away HO_3.out (fun _ hk => hk.2.2.2))) | (show (Addr.add _ _).block ≠ _; rw [add_block]; exact Kd.own_blk (Kd.R_away HO_3.out (fun _ hk => hk.2.2.2))) | (dsimp only; exact Kd.own_blk (Kd.R_away HO_3.out (fun _ hk => hk.2.2.2)))) _).trans (hHeld.2.2.1)))), ((cell_far (p := ⟨gb426, _, none⟩) (by first | exact Kd.own_blk (Kd.R_away HO_3.out (fun _ hk => hk.2.2.2)) | (rw [add_block]; exact Kd.own_blk (Kd.R_away HO_3.out (fun _ hk => hk.2.2.2))) | (show (Addr.add _ _).block ≠ _; rw [add_block]; exact Kd.own_blk (Kd.R_away HO_3.out (fun _ hk => hk.2.2.2))) | (dsimp only; exact Kd.own_blk (Kd.R_away HO_3.out (fun _ hk => hk.2.2.2)))) _).trans (((cell_far (p := ⟨gb426, _, none⟩) (by first | exact Kd.own_blk (Kd.R_away HO_3.out (fun _ hk => hk.2.2.2)) | (rw [add_block]; exact Kd.own_blk (Kd.R_away HO_3.out (fun _ hk => hk.2.2.2))) | (show (Addr.add _ _).block ≠ _; rw [add_block]; exact Kd.own_blk (Kd.R_away HO_3.out (fun _ hk => hk.2.2.2))) | (dsimp only; exact Kd.own_blk (Kd.R_away HO_3.out (fun _ hk => hk.2.2.2)))) _).trans (hHeld.2.2.2))))⟩ (fun hHeld => ?_)
           clear hK K
           refine pure_ (i := 12) (N := some 15) (v := ?_) (a' := ?_) #[true, true, true, true, true, true, true, true, true, true, true, true, true] rfl rfl (any_of HT_.out (by kernel_rfl)) (fun _ _ _ h => h) (Or.inl ⟨by rfl, ?_⟩) ?_ ?_
           rotate_left
           ·
            intro w'
            go_simp
            with_reducible rfl
           rotate_left
           ·
            simp only [Act.put, sa_, sb_, sc_, i64_w, i32_w]
            rfl
           refine done_ (done_of HT_.out (by kernel_rfl)) ?_
           try go_wp2
           go_ret
           exact ⟨by first | rfl | (simp [errW_none, errW_some] <;> rfl) | (simp only [← hji39]; first | rfl | (simp [errW_none, errW_some] <;> rfl)) | (simp [*, errW_none, errW_some] <;> rfl), by repeat (first | (with_reducible first | exact HB.out | apply below_alloc | apply pw_below_drewN | apply below_drew1 | refine below_set ?_ GE411.out | refine below_set ?_ GE415.out | refine below_set ?_ GE421.out | refine below_set ?_ GE426.out) | exact HB.out)⟩
         ·
          rw [if_neg c41] at H
          exact absurd H (by simp)
        ·
         rw [if_neg c40] at H
         exact absurd H (by simp)

/-- THE ONE PURE STATEMENT of laws_FnSwapRate: yours. -/
def laws_FnSwapRate.Pure : Prop := ∀ (l0 : List Int), l0.length ≤ maxLen → l0.length * 1 ≤ 140737488351232 → (∀ x ∈ l0, (Lit.int .u8 x).wf = true) → ∃ k, laws_FnSwapRate.f k l0 = some true
theorem laws_FnSwapRate.walk (P : laws_FnSwapRate.Pure) (a0 : Option Addr) (len0 cap0 : Nat) (z0 : List Int) (w : World) (w0 : (a0 = none ∧ len0 = 0 ∧ cap0 = 0 ∧ z0 = []) ∨ ∃ x, a0 = some x ∧ len0 ≤ cap0 ∧ cap0 ≤ maxLen ∧ z0.length = cap0 ∧ (∀ i, i < z0.length → w.cell? (x.add i) = some (.int .u8 (z0.getD i 0))) ∧ ∀ n ∈ z0, (Lit.int .u8 n).wf = true) (y0 : len0 * 1 ≤ 140737488351232) (hT : Tab w) :
  Calls Tryd.prog 4 #[.slice a0 len0 cap0] w fun e w' => e = .returned (.bool true) ∧ Below w.heap.size w w' := by
 obtain ⟨l0, rfl, hr0, hm0, hw0, hc0⟩ := ReadsInt.ofRowC w0
 obtain ⟨k, h⟩ := P l0 hm0 y0 hw0
 refine (laws_FnSwapRate.calls k _ _ l0 true w (Kd.C_of_reads (d := (0 : Int)) (h1 := fun _ => rfl) hr0) hc0 hT h).mono ?_
 rintro e w' ⟨rfl, hd⟩
 exact ⟨rfl, hd⟩

end Go.Proofs.YtbofmoelmhbpoaaDoor.Q

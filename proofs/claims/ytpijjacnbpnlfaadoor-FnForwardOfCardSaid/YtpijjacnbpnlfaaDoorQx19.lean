/- Printed by a program (bprint.py) out of the translation: for each Go function a Lean function, and the proof that the call comes to its answers. Conditions: they stand in each theorem. -/
import Derived.Test.YtpijjacnbpnlfaaDoorQx0
import Derived.Test.YtpijjacnbpnlfaaDoorQx1
import Derived.Test.YtpijjacnbpnlfaaDoorQx11
import Derived.Test.YtpijjacnbpnlfaaDoorQx17
import Derived.Test.YtpijjacnbpnlfaaDoorQx18
import Derived.Test.YtpijjacnbpnlfaaDoorTab
namespace Go.Proofs.YtpijjacnbpnlfaaDoor.Q
open Go.RowKit Go.Proofs.YtpijjacnbpnlfaaDoorW.PrintWords Go.Proofs.YtpijjacnbpnlfaaDoorW.PrintLast Go.Proofs.YtpijjacnbpnlfaaDoorW.PrintMore
attribute [local go_sem] max2_int min2_int max_two min_two max_three min_three max_four min_four   -- for this text's walks alone
set_option linter.unusedVariables false
set_option linter.unusedSimpArgs false

attribute [local go_sem high] eqA30
set_option linter.unusedSectionVars false
variable [Sent]

/-! ### laws_FnForwardOf: function 8 -/
def laws_FnForwardOf.j0 : Nat → List (S30) → Int → Bool → Bool → Bool → Int → Int → Int → Int → Option (Bool)
 | 0, _, _, _, _, _, _, _, _, _ => none
 | k + 1, x3, x4, x6, x8, x43, x513000, x513001, x517000, x517001 => if x43 = true then (if (x513000 == x517000 && (x513001 == x517001)) = true then (some (x6 == x8)) else (some false)) else (if x4 > 0 then (if 0 ≤ (wrap64 (x4 - 1)) then (if (wrap64 (x4 - 1)) < (x3.length : Int) then (if 0 ≤ x4 then (if x4 < (x3.length : Int) then ((impl_MulRange.f (wrap64 (x513000 + 1000000)) (wrap64 (x513001 + 1000000)) ((rd_T30 x3 x4).f0) ((rd_T30 x3 x4).f1)).bind fun bt520 => (if x513000 ≤ x513001 then (if bt520.2.2 = true then ((laws_within.f ((rd_T30 x3 (wrap64 (x4 - 1))).f0) ((rd_T30 x3 (wrap64 (x4 - 1))).f1) bt520.1 bt520.2.1).bind fun t524 => (some t524)) else (some true)) else (some false))) else (none)) else (none)) else (none)) else (none)) else (if 0 ≤ x4 then (if x4 < (x3.length : Int) then ((impl_MulRange.f (wrap64 (x513000 + 1000000)) (wrap64 (x513001 + 1000000)) ((rd_T30 x3 x4).f0) ((rd_T30 x3 x4).f1)).bind fun bt526 => (if x513000 ≤ x513001 then (if bt526.2.2 = true then ((laws_within.f 1000000 1000000 bt526.1 bt526.2.1).bind fun t530 => (some t530)) else (some true)) else (some false))) else (none)) else (none)))
def laws_FnForwardOf.f (k : Nat) (l0 : List Int) : Option (Bool) := if (l0.length : Int) > 1048576 then (some true) else ((spec_DrawForwardOf.f k l0).bind fun bt505 => ((impl_ForwardOf.f k bt505.1 bt505.2).bind fun bt509 => ((spec_ForwardOf.f k bt505.1 bt505.2).bind fun bt513 => (if (!(bt509.1 == bt513.1) || (!(bt509.2.1 == bt513.2.1))) = true then (laws_FnForwardOf.j0 k bt505.1 bt505.2 bt509.2.2 bt513.2.2 true bt509.1 bt509.2.1 bt513.1 bt513.2.1) else (if (bt509.2.2 != bt513.2.2) = true then (laws_FnForwardOf.j0 k bt505.1 bt505.2 bt509.2.2 bt513.2.2 true bt509.1 bt509.2.1 bt513.1 bt513.2.1) else (laws_FnForwardOf.j0 k bt505.1 bt505.2 bt509.2.2 bt513.2.2 (!bt509.2.2) bt509.1 bt509.2.1 bt513.1 bt513.2.1))))))
theorem laws_FnForwardOf.mono_l : ∀ k, (∀ y0 y1 y2 y3 y4 y5 y6 y7 y8, LeO (laws_FnForwardOf.j0 k y0 y1 y2 y3 y4 y5 y6 y7 y8) (laws_FnForwardOf.j0 (k + 1) y0 y1 y2 y3 y4 y5 y6 y7 y8))
 | 0 => fun _ _ _ _ _ _ _ _ _ r h => by simp [laws_FnForwardOf.j0] at h
 | k + 1 => by
  have ih0 := laws_FnForwardOf.mono_l k
  ·
   intro y0 y1 y2 y3 y4 y5 y6 y7 y8
   unfold laws_FnForwardOf.j0
   repeat' first
   | (with_reducible exact ih0 _ _ _ _ _ _ _ _ _)
   | (with_reducible exact impl_ForwardOf.mono _ _ _)
   | (with_reducible exact spec_DrawForwardOf.mono _ _)
   | (with_reducible exact spec_ForwardOf.mono _ _ _)
   | (with_reducible exact LeO.refl _)
   | (with_reducible exact LeO.none _)
   | (with_reducible refine LeO.ite ?_ ?_)
   | (with_reducible refine LeO.bind ?_ (fun _ => ?_))
   | exact ih0 _ _ _ _ _ _ _ _ _
   | exact impl_ForwardOf.mono _ _ _
   | exact spec_DrawForwardOf.mono _ _
   | exact spec_ForwardOf.mono _ _ _
   | exact LeO.none _
   | refine LeO.ite ?_ ?_
   | refine LeO.bind ?_ (fun _ => ?_)
theorem laws_FnForwardOf.mono : ∀ a0 k, LeO (laws_FnForwardOf.f k a0) (laws_FnForwardOf.f (k + 1) a0) := by
 intro a0 k
 have ih0 := laws_FnForwardOf.mono_l k
 unfold laws_FnForwardOf.f
 repeat' first
   | (with_reducible exact ih0 _ _ _ _ _ _ _ _ _)
   | (with_reducible exact impl_ForwardOf.mono _ _ _)
   | (with_reducible exact spec_DrawForwardOf.mono _ _)
   | (with_reducible exact spec_ForwardOf.mono _ _ _)
   | (with_reducible exact LeO.refl _)
   | (with_reducible exact LeO.none _)
   | (with_reducible refine LeO.ite ?_ ?_)
   | (with_reducible refine LeO.bind ?_ (fun _ => ?_))
   | exact ih0 _ _ _ _ _ _ _ _ _
   | exact impl_ForwardOf.mono _ _ _
   | exact spec_DrawForwardOf.mono _ _
   | exact spec_ForwardOf.mono _ _ _
   | exact LeO.none _
   | refine LeO.ite ?_ ?_
   | refine LeO.bind ?_ (fun _ => ?_)
def laws_FnForwardOf.T11 : Bool × List (List Nat × List Nat) := (true, [([], []), ([0], [0]), ([1], [1]), ([], []), ([3], [3]), ([4], [4]), ([2, 5], [2, 5]), ([], []), ([], []), ([7, 8], [7, 8]), ([9], [9]), ([6, 10], [6, 10]), ([11], [11]), ([12], [12]), ([12], [12]), ([], []), ([15, 13, 11, 0, 1, 2, 3, 4, 5, 6, 7, 8, 9, 10, 11, 12, 13, 15], [13, 15]), ([14, 16, 0, 1, 2, 3, 4, 5, 6, 7, 8, 9, 10, 11, 12, 13, 14, 15, 16], [14])])
def laws_FnForwardOf.B11 : List Nat := [0, 1, 3, 0, 8, 24, 63, 0, 0, 384, 896, 2047, 4095, 8191, 8191, 0, 49151, 131071]
theorem laws_FnForwardOf.tab11 : rtab .any (opsOf Tryd.f8 11) = laws_FnForwardOf.T11 := by kernel_rfl
theorem laws_FnForwardOf.bits11 : waitsOk laws_FnForwardOf.T11.2 laws_FnForwardOf.B11 = true := by kernel_rfl
set_option maxHeartbeats 8000000 in
set_option maxRecDepth 100000 in
theorem laws_FnForwardOf.calls (k : Nat) (A0 : Option Addr) (c0 : Nat) (l0 : List Int) (r : Bool) (w : World) (hr0 : Kd.C (Kd.int .u8) w A0 l0.length l0) (hc0 : l0.length ≤ c0) (hT : Tab w) (h : laws_FnForwardOf.f k l0 = some r) :
  Calls Tryd.prog 8 #[.slice A0 l0.length c0] w fun e w' => e = .returned (.bool r) ∧ Below w.heap.size w w' := by
 have hu30 := Tryd.underlying30
 have HTab := Aside0.mk hT
 clear hT
 have HR0 := Aside0.mk hr0
 have HC0 := Aside0.mk hc0
 clear hr0 hc0
 have HB := Aside0.mk (Below.refl w.heap.size w)
 have H : (if (l0.length : Int) > 1048576 then (some true) else ((spec_DrawForwardOf.f k l0).bind fun bt505 => ((impl_ForwardOf.f k bt505.1 bt505.2).bind fun bt509 => ((spec_ForwardOf.f k bt505.1 bt505.2).bind fun bt513 => (if (!(bt509.1 == bt513.1) || (!(bt509.2.1 == bt513.2.1))) = true then (laws_FnForwardOf.j0 k bt505.1 bt505.2 bt509.2.2 bt513.2.2 true bt509.1 bt509.2.1 bt513.1 bt513.2.1) else (if (bt509.2.2 != bt513.2.2) = true then (laws_FnForwardOf.j0 k bt505.1 bt505.2 bt509.2.2 bt513.2.2 true bt509.1 bt509.2.1 bt513.1 bt513.2.1) else (laws_FnForwardOf.j0 k bt505.1 bt505.2 bt509.2.2 bt513.2.2 (!bt509.2.2) bt509.1 bt509.2.1 bt513.1 bt513.2.1))))))) = some r := h
 clear h
 by_cases c2 : (l0.length : Int) > 1048576
 ·
  rw [if_pos c2] at H
  have c2b0 : decide (1048576 < (l0.length : Int)) = true := decide_eq_true c2
  have c2b1 : decide (1048576 < l0.length) = true := decide_eq_true (by omega)
  clear c2
  obtain rfl := Option.some.inj H
  go_enter Tryd.func8, Tryd.ntmps8
  go_wp2
  go_ret
  exact ⟨by first | rfl | (simp [errW_none, errW_some] <;> rfl) | (simp [*, errW_none, errW_some] <;> rfl), by repeat (first | (with_reducible first | exact HB.out | apply below_alloc | apply pw_below_drewN | apply below_drew1) | exact HB.out)⟩
 ·
  rw [if_neg c2] at H
  have c2b0 : decide (1048576 < (l0.length : Int)) = false := decide_eq_false c2
  have c2b1 : decide (1048576 < l0.length) = false := decide_eq_false (by omega)
  clear c2
  replace H := Option.bind_eq_some_iff.mp H
  obtain ⟨⟨t505, t506⟩, A30, H⟩ := H
  replace H : ((impl_ForwardOf.f k t505 t506).bind fun bt509 => ((spec_ForwardOf.f k t505 t506).bind fun bt513 => (if (!(bt509.1 == bt513.1) || (!(bt509.2.1 == bt513.2.1))) = true then (laws_FnForwardOf.j0 k t505 t506 bt509.2.2 bt513.2.2 true bt509.1 bt509.2.1 bt513.1 bt513.2.1) else (if (bt509.2.2 != bt513.2.2) = true then (laws_FnForwardOf.j0 k t505 t506 bt509.2.2 bt513.2.2 true bt509.1 bt509.2.1 bt513.1 bt513.2.1) else (laws_FnForwardOf.j0 k t505 t506 bt509.2.2 bt513.2.2 (!bt509.2.2) bt509.1 bt509.2.1 bt513.1 bt513.2.1))))) = some r := H
  have A3 := Aside0.mk A30
  clear A30
  replace H := Option.bind_eq_some_iff.mp H
  obtain ⟨⟨t509, t510, t511⟩, A40, H⟩ := H
  replace H : ((spec_ForwardOf.f k t505 t506).bind fun bt513 => (if (!(t509 == bt513.1) || (!(t510 == bt513.2.1))) = true then (laws_FnForwardOf.j0 k t505 t506 t511 bt513.2.2 true t509 t510 bt513.1 bt513.2.1) else (if (t511 != bt513.2.2) = true then (laws_FnForwardOf.j0 k t505 t506 t511 bt513.2.2 true t509 t510 bt513.1 bt513.2.1) else (laws_FnForwardOf.j0 k t505 t506 t511 bt513.2.2 (!t511) t509 t510 bt513.1 bt513.2.1)))) = some r := H
  have A4 := Aside0.mk A40
  clear A40
  replace H := Option.bind_eq_some_iff.mp H
  obtain ⟨⟨t513, t514, t515⟩, A50, H⟩ := H
  replace H : (if (!(t509 == t513) || (!(t510 == t514))) = true then (laws_FnForwardOf.j0 k t505 t506 t511 t515 true t509 t510 t513 t514) else (if (t511 != t515) = true then (laws_FnForwardOf.j0 k t505 t506 t511 t515 true t509 t510 t513 t514) else (laws_FnForwardOf.j0 k t505 t506 t511 t515 (!t511) t509 t510 t513 t514))) = some r := H
  have A5 := Aside0.mk A50
  clear A50
  have HC6 := Aside0.mk H
  clear H
  go_enter Tryd.func8, Tryd.ntmps8
  go_upto_region 6 with (first | ((with_reducible refine gate_callee (f := 19) rfl ?_); refine goesL_ (some 17) rfl rfl Tryd.func19 (by kernel_rfl) rfl #[.slice A0 l0.length c0] rfl (by (try simp only [List.map_toArray, List.map_cons, List.map_nil]); first | done | rfl | (simp only [List.length_drop, List.length_take]; rfl)) ?_; (with_reducible refine (spec_DrawForwardOf.calls k _ _ l0 t505 t506 _ ?side1 ?side2 A3.out).mono ?_); (case side1 => repeat (first | exact HR0.out | (with_reducible refine Kd.C_alloc ?_ _) | (with_reducible refine Kd.C_drewN ?_ _) | (with_reducible refine Kd.C_drew ?_))); (case side2 => exact HC0.out); rintro e w7 ⟨v507, rfl, ho0, hb⟩; refine ⟨_, rfl, ?_⟩; have n0_ := Aside0.mk (Kd.R_lower ho0 (below_size (bl_ HB))); have n1_ := Aside0.mk (below_step (bl_ HB) hb); clear HB; have HO508 := n0_; have HB := n1_; clear n0_ n1_; (try clear hb); (try clear hb2); (try clear hk); (try clear hi); (try clear ho0); obtain ⟨Ao8, co8, eo8⟩ := Kd.R_slice HO508.out; subst eo8) | ((with_reducible refine gate_callee (f := 15) rfl ?_); refine goesL_ (some 23) rfl rfl Tryd.func15 (by kernel_rfl) rfl #[.slice Ao8 t505.length co8, .int .i64 t506] rfl (by (try simp only [List.map_toArray, List.map_cons, List.map_nil]); first | done | rfl | (simp only [List.length_drop, List.length_take]; rfl)) ?_; (with_reducible refine (impl_ForwardOf.calls k _ _ t505 t506 t509 t510 t511 _ ?side1 ?side2 ?side3 A4.out).mono ?_); (case side1 => repeat (first | exact (Kd.R_reads' HO508.out).2.2 | (with_reducible refine Kd.C_alloc ?_ _) | (with_reducible refine Kd.C_drewN ?_ _) | (with_reducible refine Kd.C_drew ?_))); (case side2 => exact (Kd.R_reads' HO508.out).2.1); (case side3 => first | exact HTab.out | exact Tab.below HTab.out (bl_ HB)); rintro e w9 ⟨rfl, hb⟩; refine ⟨_, rfl, ?_⟩; have n0_ := Aside0.mk (Kd.R_below (kr_ HO508) hb); have n1_ := Aside0.mk (below_step (bl_ HB) hb); clear HO508; clear HB; have HO508 := n0_; have HB := n1_; clear n0_ n1_; (try clear hb); (try clear hb2); (try clear hk); (try clear hi)) | ((with_reducible refine gate_dst (N := 5) rfl ?_); refine box_event ?hg (N := 5) ?hd (cs := #[.int .i64 0, .int .i64 0]) (t := 30) ?hr ?_; (case hd => rfl); (case hg => rfl); (case hr => first | (go_simp; done) | (go_simp; rfl)); intro gb512 hg w10 hbox hb; have n0_ := Aside0.mk (Kd.R_below (Kd.R_elderB (kr_ HO508) gb512 (Nat.le_of_eq hg.symm)) hb); have n1_ := Aside0.mk (below_step (bl_ HB) hb); have n2_ := Aside0.mk (hbox); have n3_ := Aside0.mk ((by rw [hg]; exact (below_size (bl_ HB)) : w.heap.size ≤ gb512)); have n4_ := Aside0.mk ((by rw [hg]; exact (below_size (bl_ HB)) : w.heap.size ≤ gb512)); clear HO508; clear HB; have HO508 := n0_; have HB := n1_; have BK512 := n2_; have GW512 := n3_; have GE512 := n4_; clear n0_ n1_ n2_ n3_ n4_; clear hb hbox hg; have hcz11_0 : w10.cell? ⟨gb512, 0, none⟩ = some (.int .i64 0) := (blk_cell BK512.out 0).trans rfl; have hcz11_1 : w10.cell? ⟨gb512, 1, none⟩ = some (.int .i64 0) := (blk_cell BK512.out 1).trans rfl; have hfz11_0 := blk_frozen BK512.out 0; have hfz11_1 := blk_frozen BK512.out 1) | ((with_reducible refine gate_callee (f := 20) rfl ?_); refine goesL_ (some 29) rfl rfl Tryd.func20 (by kernel_rfl) rfl #[.slice Ao8 t505.length co8, .int .i64 t506] rfl (by (try simp only [List.map_toArray, List.map_cons, List.map_nil]); first | done | rfl | (simp only [List.length_drop, List.length_take]; rfl)) ?_; (with_reducible refine (spec_ForwardOf.calls k _ _ t505 t506 t513 t514 t515 _ ?side1 ?side2 A5.out).mono ?_); (case side1 => refine (Kd.R_reads' (e := 30) (base := w.heap.size) (ok := fun k_ => (True ∧ k_ ≠ gb512)) (n := t505.length) (c := co8) ?_).2.2; exact (by (with_reducible repeat (first | apply Kd.R_alloc | apply Kd.R_drewN | apply Kd.R_drew)); exact (Kd.R_mono (Kd.R_far (p := ⟨gb512, 1, none⟩) (Kd.R_far (p := ⟨gb512, 0, none⟩) (Kd.R_mono HO508.out (fun k_ hk => (⟨hk, hk.2⟩ : _ ∧ k_ ≠ gb512))) (fun _ hk => hk.2) (.int .i64 t509)) (fun _ hk => hk.2) (.int .i64 t510)) (fun _ h_ => h_.1)))); (case side2 => exact (Kd.R_reads' HO508.out).2.1); rintro e w12 ⟨rfl, hb⟩; refine ⟨_, rfl, ?_⟩; have n0_ := Aside0.mk (Kd.R_below (by (with_reducible repeat (first | apply Kd.R_alloc | apply Kd.R_drewN | apply Kd.R_drew)); exact (Kd.R_mono (Kd.R_far (p := ⟨gb512, 1, none⟩) (Kd.R_far (p := ⟨gb512, 0, none⟩) (Kd.R_mono HO508.out (fun k_ hk => (⟨hk, hk.2⟩ : _ ∧ k_ ≠ gb512))) (fun _ hk => hk.2) (.int .i64 t509)) (fun _ hk => hk.2) (.int .i64 t510)) (fun _ h_ => h_.1))) hb); have n1_ := Aside0.mk (blk_below (g := gb512) (o := .cells #[.int .i64 t509, .int .i64 t510] 30 (0, 0)) (by (with_reducible repeat (first | refine blk_drewN ?_ _ | refine blk_drew ?_ | refine blk_alloc ?_ _)); refine blk_put (cs := #[.int .i64 t509, .int .i64 0]) ?_ 1 _ rfl; (with_reducible repeat (first | refine blk_drewN ?_ _ | refine blk_drew ?_ | refine blk_alloc ?_ _)); refine blk_put (cs := #[.int .i64 0, .int .i64 0]) ?_ 0 _ rfl; (with_reducible repeat (first | refine blk_drewN ?_ _ | refine blk_drew ?_ | refine blk_alloc ?_ _)); exact BK512.out) hb); have n2_ := Aside0.mk (below_step (bl_ HB) hb); clear HO508; clear BK512; clear HB; have HO508 := n0_; have BK512 := n1_; have HB := n2_; clear n0_ n1_ n2_; (try clear hb); (try clear hb2); (try clear hk); (try clear hi)) | ((with_reducible refine gate_dst (N := 7) rfl ?_); refine box_event ?hg (N := 7) ?hd (cs := #[.int .i64 0, .int .i64 0]) (t := 30) ?hr ?_; (case hd => rfl); (case hg => rfl); (case hr => first | (go_simp; done) | (go_simp; rfl)); intro gb516 hg w13 hbox hb; have n0_ := Aside0.mk (Kd.R_below (Kd.R_elderB (kr_ HO508) gb516 (Nat.le_of_eq hg.symm)) hb); have n1_ := Aside0.mk (blk_below (g := gb512) (o := .cells #[.int .i64 t509, .int .i64 t510] 30 (0, 0)) (bk_ BK512) hb); have n2_ := Aside0.mk (below_step (bl_ HB) hb); have n3_ := Aside0.mk (hbox); have n4_ := Aside0.mk ((by rw [hg]; exact (below_size (bl_ HB)) : w.heap.size ≤ gb516)); have n5_ := Aside0.mk ((by rw [hg]; exact (below_size (bl_ HB)) : w.heap.size ≤ gb516)); have n6_ := Aside0.mk ((by rw [hg]; exact Nat.ne_of_lt (blk_lt (g := gb512) (o := .cells #[.int .i64 t509, .int .i64 t510] 30 (0, 0)) (bk_ BK512)) : gb512 ≠ gb516)); have n7_ := Aside0.mk ((by rw [hg]; exact Nat.ne_of_gt (blk_lt (g := gb512) (o := .cells #[.int .i64 t509, .int .i64 t510] 30 (0, 0)) (bk_ BK512)) : gb516 ≠ gb512)); clear HO508; clear BK512; clear HB; have HO508 := n0_; have BK512 := n1_; have HB := n2_; have BK516 := n3_; have GW516 := n4_; have GE516 := n5_; have NB512_516 := n6_; have NB516_512 := n7_; clear n0_ n1_ n2_ n3_ n4_ n5_ n6_ n7_; clear hb hbox hg; have hnb14 := NB516_512.out; have hnc14 := NB512_516.out; have hcz15_0 : w13.cell? ⟨gb516, 0, none⟩ = some (.int .i64 0) := (blk_cell BK516.out 0).trans rfl; have hcz15_1 : w13.cell? ⟨gb516, 1, none⟩ = some (.int .i64 0) := (blk_cell BK516.out 1).trans rfl; have hfz15_0 := blk_frozen BK516.out 0; have hfz15_1 := blk_frozen BK516.out 1))
  (try simp only [Act.put, sa_, sb_, sc_])
  go_cut [43] (fun v43 wc => ∃ (kq : Nat) (x43_5 : Bool), v43 = .bool x43_5 ∧ Aside0 (laws_FnForwardOf.j0 kq t505 t506 t511 t515 x43_5 t509 t510 t513 t514 = some r) ∧ Aside0 (kq ≤ k) ∧ Aside0 (Kd.R k30 30 wc w.heap.size (fun k_ => k_ ≠ gb512 ∧ k_ ≠ gb516) (.slice Ao8 t505.length co8) t505) ∧ Aside0 (wc.heap[gb512]? = some (.cells #[.int .i64 t509, .int .i64 t510] 30 (0, 0))) ∧ Aside0 (wc.heap[gb516]? = some (.cells #[.int .i64 t513, .int .i64 t514] 30 (0, 0))) ∧ Aside0 (Below w.heap.size w wc))
  case first =>
   have H := HC6.out
   clear HC6
   by_cases c16 : (!(t509 == t513) || (!(t510 == t514))) = true
   ·
    rw [if_pos c16] at H
    have c16b0 : (!(t509 == t513) || (!(t510 == t514))) = true := c16
    clear c16
    (first | rw [c16b0] | (simp only [i64_w, i32_w]; rw [c16b0]) | skip)
    have H' := Aside0.mk H
    clear H
    have hnb17 := NB512_516.out
    have hnc17 := NB516_512.out
    have hcz18_0 : w13.cell? ⟨gb512, 0, none⟩ = some (.int .i64 t509) := (blk_cell BK512.out 0).trans rfl
    have hcz18_1 : w13.cell? ⟨gb512, 1, none⟩ = some (.int .i64 t510) := (blk_cell BK512.out 1).trans rfl
    have hfz18_0 := blk_frozen BK512.out 0
    have hfz18_1 := blk_frozen BK512.out 1
    have hcz19_0 : w13.cell? ⟨gb516, 0, none⟩ = some (.int .i64 0) := (blk_cell BK516.out 0).trans rfl
    have hcz19_1 : w13.cell? ⟨gb516, 1, none⟩ = some (.int .i64 0) := (blk_cell BK516.out 1).trans rfl
    have hfz19_0 := blk_frozen BK516.out 0
    have hfz19_1 := blk_frozen BK516.out 1
    go_wp2
    go_meet
    case rel => exact ⟨_, (true), (by first | rfl | (simp; done) | (simp [*]; done)), H', ⟨by first | omega | exact Nat.le_refl _⟩, ⟨by (with_reducible repeat (first | apply Kd.R_alloc | apply Kd.R_drewN | apply Kd.R_drew)); exact Kd.R_mono (Kd.R_far (p := ⟨gb516, 1, none⟩) (Kd.R_far (p := ⟨gb516, 0, none⟩) (Kd.R_mono HO508.out (fun k_ hk => (⟨hk, hk.2⟩ : _ ∧ k_ ≠ gb516))) (fun _ hk => hk.2) (.int .i64 t513)) (fun _ hk => hk.2) (.int .i64 t514)) (fun _ hk => ⟨hk.1.1.2, hk.1.2⟩)⟩, ⟨by (with_reducible repeat (first | refine blk_drewN ?_ _ | refine blk_drew ?_ | refine blk_alloc ?_ _)); refine blk_far ?_ NB512_516.out _; (with_reducible repeat (first | refine blk_drewN ?_ _ | refine blk_drew ?_ | refine blk_alloc ?_ _)); refine blk_far ?_ NB512_516.out _; (with_reducible repeat (first | refine blk_drewN ?_ _ | refine blk_drew ?_ | refine blk_alloc ?_ _)); exact BK512.out⟩, ⟨by (with_reducible repeat (first | refine blk_drewN ?_ _ | refine blk_drew ?_ | refine blk_alloc ?_ _)); refine blk_put (cs := #[.int .i64 t513, .int .i64 0]) ?_ 1 _ rfl; (with_reducible repeat (first | refine blk_drewN ?_ _ | refine blk_drew ?_ | refine blk_alloc ?_ _)); refine blk_put (cs := #[.int .i64 0, .int .i64 0]) ?_ 0 _ rfl; (with_reducible repeat (first | refine blk_drewN ?_ _ | refine blk_drew ?_ | refine blk_alloc ?_ _)); exact BK516.out⟩, ⟨by repeat (first | (with_reducible first | exact HB.out | apply below_alloc | apply pw_below_drewN | apply below_drew1 | refine below_set ?_ GE512.out | refine below_set ?_ GE516.out) | exact HB.out)⟩⟩
   ·
    rw [if_neg c16] at H
    have c16b0 : (!(t509 == t513) || (!(t510 == t514))) = false := by simpa using c16
    clear c16
    (first | rw [c16b0] | (simp only [i64_w, i32_w]; rw [c16b0]) | skip)
    by_cases c20 : (t511 != t515) = true
    ·
     rw [if_pos c20] at H
     have c20b0 : (t511 != t515) = true := c20
     (try (have c20b1 : decide (t511 = t515) = false := by simpa using c20))
     (try (have c20b2 : (t511 == t515) = false := by simpa using c20))
     (try (have c20b3 : ¬ (t511 = t515) := by simpa using c20))
     clear c20
     have H' := Aside0.mk H
     clear H
     have hnb21 := NB512_516.out
     have hnc21 := NB516_512.out
     have hcz22_0 : w13.cell? ⟨gb512, 0, none⟩ = some (.int .i64 t509) := (blk_cell BK512.out 0).trans rfl
     have hcz22_1 : w13.cell? ⟨gb512, 1, none⟩ = some (.int .i64 t510) := (blk_cell BK512.out 1).trans rfl
     have hfz22_0 := blk_frozen BK512.out 0
     have hfz22_1 := blk_frozen BK512.out 1
     have hcz23_0 : w13.cell? ⟨gb516, 0, none⟩ = some (.int .i64 0) := (blk_cell BK516.out 0).trans rfl
     have hcz23_1 : w13.cell? ⟨gb516, 1, none⟩ = some (.int .i64 0) := (blk_cell BK516.out 1).trans rfl
     have hfz23_0 := blk_frozen BK516.out 0
     have hfz23_1 := blk_frozen BK516.out 1
     go_wp2
     go_meet
     case rel => exact ⟨_, (true), (by first | rfl | (simp; done) | (simp [*]; done)), H', ⟨by first | omega | exact Nat.le_refl _⟩, ⟨by (with_reducible repeat (first | apply Kd.R_alloc | apply Kd.R_drewN | apply Kd.R_drew)); exact Kd.R_mono (Kd.R_far (p := ⟨gb516, 1, none⟩) (Kd.R_far (p := ⟨gb516, 0, none⟩) (Kd.R_mono HO508.out (fun k_ hk => (⟨hk, hk.2⟩ : _ ∧ k_ ≠ gb516))) (fun _ hk => hk.2) (.int .i64 t513)) (fun _ hk => hk.2) (.int .i64 t514)) (fun _ hk => ⟨hk.1.1.2, hk.1.2⟩)⟩, ⟨by (with_reducible repeat (first | refine blk_drewN ?_ _ | refine blk_drew ?_ | refine blk_alloc ?_ _)); refine blk_far ?_ NB512_516.out _; (with_reducible repeat (first | refine blk_drewN ?_ _ | refine blk_drew ?_ | refine blk_alloc ?_ _)); refine blk_far ?_ NB512_516.out _; (with_reducible repeat (first | refine blk_drewN ?_ _ | refine blk_drew ?_ | refine blk_alloc ?_ _)); exact BK512.out⟩, ⟨by (with_reducible repeat (first | refine blk_drewN ?_ _ | refine blk_drew ?_ | refine blk_alloc ?_ _)); refine blk_put (cs := #[.int .i64 t513, .int .i64 0]) ?_ 1 _ rfl; (with_reducible repeat (first | refine blk_drewN ?_ _ | refine blk_drew ?_ | refine blk_alloc ?_ _)); refine blk_put (cs := #[.int .i64 0, .int .i64 0]) ?_ 0 _ rfl; (with_reducible repeat (first | refine blk_drewN ?_ _ | refine blk_drew ?_ | refine blk_alloc ?_ _)); exact BK516.out⟩, ⟨by repeat (first | (with_reducible first | exact HB.out | apply below_alloc | apply pw_below_drewN | apply below_drew1 | refine below_set ?_ GE512.out | refine below_set ?_ GE516.out) | exact HB.out)⟩⟩
    ·
     rw [if_neg c20] at H
     have c20b0 : (t511 != t515) = false := by simpa using c20
     (try (have c20b1 : decide (t511 = t515) = true := by simpa using c20))
     (try (have c20b2 : (t511 == t515) = true := by simpa using c20))
     clear c20
     have H' := Aside0.mk H
     clear H
     have hnb24 := NB512_516.out
     have hnc24 := NB516_512.out
     have hcz25_0 : w13.cell? ⟨gb512, 0, none⟩ = some (.int .i64 t509) := (blk_cell BK512.out 0).trans rfl
     have hcz25_1 : w13.cell? ⟨gb512, 1, none⟩ = some (.int .i64 t510) := (blk_cell BK512.out 1).trans rfl
     have hfz25_0 := blk_frozen BK512.out 0
     have hfz25_1 := blk_frozen BK512.out 1
     have hcz26_0 : w13.cell? ⟨gb516, 0, none⟩ = some (.int .i64 0) := (blk_cell BK516.out 0).trans rfl
     have hcz26_1 : w13.cell? ⟨gb516, 1, none⟩ = some (.int .i64 0) := (blk_cell BK516.out 1).trans rfl
     have hfz26_0 := blk_frozen BK516.out 0
     have hfz26_1 := blk_frozen BK516.out 1
     go_wp2
     go_meet
     case rel => exact ⟨_, (!t511), (by first | rfl | (simp; done) | (simp [*]; done)), H', ⟨by first | omega | exact Nat.le_refl _⟩, ⟨by (with_reducible repeat (first | apply Kd.R_alloc | apply Kd.R_drewN | apply Kd.R_drew)); exact Kd.R_mono (Kd.R_far (p := ⟨gb516, 1, none⟩) (Kd.R_far (p := ⟨gb516, 0, none⟩) (Kd.R_mono HO508.out (fun k_ hk => (⟨hk, hk.2⟩ : _ ∧ k_ ≠ gb516))) (fun _ hk => hk.2) (.int .i64 t513)) (fun _ hk => hk.2) (.int .i64 t514)) (fun _ hk => ⟨hk.1.1.2, hk.1.2⟩)⟩, ⟨by (with_reducible repeat (first | refine blk_drewN ?_ _ | refine blk_drew ?_ | refine blk_alloc ?_ _)); refine blk_far ?_ NB512_516.out _; (with_reducible repeat (first | refine blk_drewN ?_ _ | refine blk_drew ?_ | refine blk_alloc ?_ _)); refine blk_far ?_ NB512_516.out _; (with_reducible repeat (first | refine blk_drewN ?_ _ | refine blk_drew ?_ | refine blk_alloc ?_ _)); exact BK512.out⟩, ⟨by (with_reducible repeat (first | refine blk_drewN ?_ _ | refine blk_drew ?_ | refine blk_alloc ?_ _)); refine blk_put (cs := #[.int .i64 t513, .int .i64 0]) ?_ 1 _ rfl; (with_reducible repeat (first | refine blk_drewN ?_ _ | refine blk_drew ?_ | refine blk_alloc ?_ _)); refine blk_put (cs := #[.int .i64 0, .int .i64 0]) ?_ 0 _ rfl; (with_reducible repeat (first | refine blk_drewN ?_ _ | refine blk_drew ?_ | refine blk_alloc ?_ _)); exact BK516.out⟩, ⟨by repeat (first | (with_reducible first | exact HB.out | apply below_alloc | apply pw_below_drewN | apply below_drew1 | refine below_set ?_ GE512.out | refine below_set ?_ GE516.out) | exact HB.out)⟩⟩
  case rest =>
   clear HC6
   try clear c1
   try clear c2
   try clear c2b0
   try clear c2b1
   try clear p2
   try clear c8
   try clear c14
   try clear c15
   try clear c16
   try clear c16b0
   try clear c17
   try clear c19
   try clear c20
   try clear c20b0
   try clear c20b1
   try clear c20b2
   try clear c21
   try clear c24
   try clear hcz11_0
   try clear hcz11_1
   try clear hcz15_0
   try clear hcz15_1
   try clear hcz18_0
   try clear hcz18_1
   try clear hcz19_0
   try clear hcz19_1
   try clear hcz22_0
   try clear hcz22_1
   try clear hcz23_0
   try clear hcz23_1
   try clear hcz25_0
   try clear hcz25_1
   try clear hcz26_0
   try clear hcz26_1
   try clear hfz11_0
   try clear hfz11_1
   try clear hfz15_0
   try clear hfz15_1
   try clear hfz18_0
   try clear hfz18_1
   try clear hfz19_0
   try clear hfz19_1
   try clear hfz22_0
   try clear hfz22_1
   try clear hfz23_0
   try clear hfz23_1
   try clear hfz25_0
   try clear hfz25_1
   try clear hfz26_0
   try clear hfz26_1
   obtain ⟨kq, x43_5, rfl, HA, HJ5, HO_3, BK512, BK516, HB⟩ := hcut
   cases kq with
   | zero => exact absurd HA.out (by simp [laws_FnForwardOf.j0])
   | succ kj5 =>
    have H := HA.out
    clear HA
    simp only [laws_FnForwardOf.j0] at H
    by_cases c27 : x43_5 = true
    ·
     subst c27
     have H1 : (if (t509 == t513 && (t510 == t514)) = true then (some (t511 == t515)) else (some false)) = some r := by rw [if_pos rfl] at H; exact H
     clear H
     have H := H1
     clear H1
     by_cases c28 : (t509 == t513 && (t510 == t514)) = true
     ·
      rw [if_pos c28] at H
      have c28b0 : (t509 == t513 && (t510 == t514)) = true := c28
      (try (have c28b1 : decide (t509 = t513 && (t510 == t514)) = true := by simpa using c28))
      (try (have c28b2 : (t509 == t513 && (t510 == t514)) = true := by simpa using c28))
      clear c28
      obtain rfl := Option.some.inj H
      have hnb29 := NB512_516.out
      have hnc29 := NB516_512.out
      have hcz30_0 : wc.cell? ⟨gb512, 0, none⟩ = some (.int .i64 t509) := (blk_cell BK512.out 0).trans rfl
      have hcz30_1 : wc.cell? ⟨gb512, 1, none⟩ = some (.int .i64 t510) := (blk_cell BK512.out 1).trans rfl
      have hfz30_0 := blk_frozen BK512.out 0
      have hfz30_1 := blk_frozen BK512.out 1
      have hcz31_0 : wc.cell? ⟨gb516, 0, none⟩ = some (.int .i64 t513) := (blk_cell BK516.out 0).trans rfl
      have hcz31_1 : wc.cell? ⟨gb516, 1, none⟩ = some (.int .i64 t514) := (blk_cell BK516.out 1).trans rfl
      have hfz31_0 := blk_frozen BK516.out 0
      have hfz31_1 := blk_frozen BK516.out 1
      go_wp2
      go_ret
      exact ⟨by first | rfl | (simp [errW_none, errW_some] <;> rfl) | (simp [*, errW_none, errW_some] <;> rfl), by repeat (first | (with_reducible first | exact HB.out | apply below_alloc | apply pw_below_drewN | apply below_drew1 | refine below_set ?_ GE512.out | refine below_set ?_ GE516.out) | exact HB.out)⟩
     ·
      rw [if_neg c28] at H
      have c28b0 : (t509 == t513 && (t510 == t514)) = false := by simpa using c28
      (try (have c28b1 : decide (t509 = t513 && (t510 == t514)) = false := by simpa using c28))
      (try (have c28b2 : (t509 == t513 && (t510 == t514)) = false := by simpa using c28))
      (try (have c28b3 : ¬ (t509 = t513 && (t510 == t514)) := by simpa using c28))
      clear c28
      obtain rfl := Option.some.inj H
      have hnb32 := NB512_516.out
      have hnc32 := NB516_512.out
      have hcz33_0 : wc.cell? ⟨gb512, 0, none⟩ = some (.int .i64 t509) := (blk_cell BK512.out 0).trans rfl
      have hcz33_1 : wc.cell? ⟨gb512, 1, none⟩ = some (.int .i64 t510) := (blk_cell BK512.out 1).trans rfl
      have hfz33_0 := blk_frozen BK512.out 0
      have hfz33_1 := blk_frozen BK512.out 1
      have hcz34_0 : wc.cell? ⟨gb516, 0, none⟩ = some (.int .i64 t513) := (blk_cell BK516.out 0).trans rfl
      have hcz34_1 : wc.cell? ⟨gb516, 1, none⟩ = some (.int .i64 t514) := (blk_cell BK516.out 1).trans rfl
      have hfz34_0 := blk_frozen BK516.out 0
      have hfz34_1 := blk_frozen BK516.out 1
      go_wp2
      go_ret
      exact ⟨by first | rfl | (simp [errW_none, errW_some] <;> rfl) | (simp [*, errW_none, errW_some] <;> rfl), by repeat (first | (with_reducible first | exact HB.out | apply below_alloc | apply pw_below_drewN | apply below_drew1 | refine below_set ?_ GE512.out | refine below_set ?_ GE516.out) | exact HB.out)⟩
    ·
     replace c27 := Bool.eq_false_iff.mpr c27
     subst c27
     have H1 : (if t506 > 0 then (if 0 ≤ (wrap64 (t506 - 1)) then (if (wrap64 (t506 - 1)) < (t505.length : Int) then (if 0 ≤ t506 then (if t506 < (t505.length : Int) then ((impl_MulRange.f (wrap64 (t509 + 1000000)) (wrap64 (t510 + 1000000)) ((rd_T30 t505 t506).f0) ((rd_T30 t505 t506).f1)).bind fun bt520 => (if t509 ≤ t510 then (if bt520.2.2 = true then ((laws_within.f ((rd_T30 t505 (wrap64 (t506 - 1))).f0) ((rd_T30 t505 (wrap64 (t506 - 1))).f1) bt520.1 bt520.2.1).bind fun t524 => (some t524)) else (some true)) else (some false))) else (none)) else (none)) else (none)) else (none)) else (if 0 ≤ t506 then (if t506 < (t505.length : Int) then ((impl_MulRange.f (wrap64 (t509 + 1000000)) (wrap64 (t510 + 1000000)) ((rd_T30 t505 t506).f0) ((rd_T30 t505 t506).f1)).bind fun bt526 => (if t509 ≤ t510 then (if bt526.2.2 = true then ((laws_within.f 1000000 1000000 bt526.1 bt526.2.1).bind fun t530 => (some t530)) else (some true)) else (some false))) else (none)) else (none))) = some r := by rw [if_neg (show ¬ (false = true) by decide)] at H; exact H
     clear H
     have H := H1
     clear H1
     by_cases c35 : t506 > 0
     ·
      rw [if_pos c35] at H
      have c35b0 : decide (0 < t506) = true := decide_eq_true c35
      clear c35
      obtain ⟨ji36, hji36⟩ : ∃ j_ : Int, (wrap64 (t506 - 1)) = j_ := ⟨_, rfl⟩
      replace H : (if 0 ≤ (ji36) then (if (ji36) < (t505.length : Int) then (if 0 ≤ t506 then (if t506 < (t505.length : Int) then ((impl_MulRange.f (wrap64 (t509 + 1000000)) (wrap64 (t510 + 1000000)) ((rd_T30 t505 t506).f0) ((rd_T30 t505 t506).f1)).bind fun bt520 => (if t509 ≤ t510 then (if bt520.2.2 = true then ((laws_within.f ((rd_T30 t505 (ji36)).f0) ((rd_T30 t505 (ji36)).f1) bt520.1 bt520.2.1).bind fun t524 => (some t524)) else (some true)) else (some false))) else (none)) else (none)) else (none)) else (none)) = some r := by first | (rw [hji36] at H; exact H) | (simp only [hji36] at H ⊢; exact H)
      have hji36w : (IntKind.i64.wrap (t506 - 1)) = ji36 := (i64_w _).trans hji36
      by_cases c37 : 0 ≤ (ji36)
      ·
       rw [if_pos c37] at H
       have c37b0 : decide (0 ≤ (ji36)) = true := decide_eq_true c37
       clear c37
       by_cases c38 : (ji36) < (t505.length : Int)
       ·
        rw [if_pos c38] at H
        have c38b0 : decide ((ji36) < (t505.length : Int)) = true := decide_eq_true c38
        clear c38
        by_cases c39 : 0 ≤ t506
        ·
         rw [if_pos c39] at H
         have c39b0 : decide (0 ≤ t506) = true := decide_eq_true c39
         clear c39
         by_cases c40 : t506 < (t505.length : Int)
         ·
          rw [if_pos c40] at H
          have c40b0 : decide (t506 < (t505.length : Int)) = true := decide_eq_true c40
          clear c40
          replace H := Option.bind_eq_some_iff.mp H
          obtain ⟨⟨t520, t521, t522⟩, A410, H⟩ := H
          replace H : (if t509 ≤ t510 then (if t522 = true then ((laws_within.f ((rd_T30 t505 (ji36)).f0) ((rd_T30 t505 (ji36)).f1) t520 t521).bind fun t524 => (some t524)) else (some true)) else (some false)) = some r := H
          have A41 := Aside0.mk A410
          clear A410
          by_cases c42 : t509 ≤ t510
          ·
           rw [if_pos c42] at H
           have c42b0 : decide (t509 ≤ t510) = true := decide_eq_true c42
           clear c42
           by_cases c43 : t522 = true
           ·
            subst c43
            have H1 : ((laws_within.f ((rd_T30 t505 (ji36)).f0) ((rd_T30 t505 (ji36)).f1) t520 t521).bind fun t524 => (some t524)) = some r := by rw [if_pos rfl] at H; exact H
            clear H
            have H := H1
            clear H1
            replace H := Option.bind_eq_some_iff.mp H
            obtain ⟨t524, A440, H⟩ := H
            replace H : (some t524) = some r := H
            have A44 := Aside0.mk A440
            clear A440
            obtain rfl := Option.some.inj H
            try go_wp2_with (first | ((with_reducible refine gate_dst (N := 9) rfl ?_); refine box_event ?hg (N := 9) ?hd (cs := #[.int .i64 0, .int .i64 0]) (t := 30) ?hr ?_; (case hd => rfl); (case hg => rfl); (case hr => first | (go_simp; done) | (go_simp; rfl)); intro gb517 hg w45 hbox hb; have n0_ := Aside0.mk (Kd.R_below (Kd.R_elderB (kr_ HO_3) gb517 (Nat.le_of_eq hg.symm)) hb); have n1_ := Aside0.mk (blk_below (g := gb512) (o := .cells #[.int .i64 t509, .int .i64 t510] 30 (0, 0)) (bk_ BK512) hb); have n2_ := Aside0.mk (blk_below (g := gb516) (o := .cells #[.int .i64 t513, .int .i64 t514] 30 (0, 0)) (bk_ BK516) hb); have n3_ := Aside0.mk (below_step (bl_ HB) hb); have n4_ := Aside0.mk (hbox); have n5_ := Aside0.mk ((by rw [hg]; exact (below_size (bl_ HB)) : w.heap.size ≤ gb517)); have n6_ := Aside0.mk ((by rw [hg]; exact (below_size (bl_ HB)) : w.heap.size ≤ gb517)); have n7_ := Aside0.mk ((by rw [hg]; exact Nat.ne_of_lt (blk_lt (g := gb512) (o := .cells #[.int .i64 t509, .int .i64 t510] 30 (0, 0)) (bk_ BK512)) : gb512 ≠ gb517)); have n8_ := Aside0.mk ((by rw [hg]; exact Nat.ne_of_gt (blk_lt (g := gb512) (o := .cells #[.int .i64 t509, .int .i64 t510] 30 (0, 0)) (bk_ BK512)) : gb517 ≠ gb512)); have n9_ := Aside0.mk ((by rw [hg]; exact Nat.ne_of_lt (blk_lt (g := gb516) (o := .cells #[.int .i64 t513, .int .i64 t514] 30 (0, 0)) (bk_ BK516)) : gb516 ≠ gb517)); have n10_ := Aside0.mk ((by rw [hg]; exact Nat.ne_of_gt (blk_lt (g := gb516) (o := .cells #[.int .i64 t513, .int .i64 t514] 30 (0, 0)) (bk_ BK516)) : gb517 ≠ gb516)); clear HO_3; clear BK512; clear BK516; clear HB; have HO_3 := n0_; have BK512 := n1_; have BK516 := n2_; have HB := n3_; have BK517 := n4_; have GW517 := n5_; have GE517 := n6_; have NB512_517 := n7_; have NB517_512 := n8_; have NB516_517 := n9_; have NB517_516 := n10_; clear n0_ n1_ n2_ n3_ n4_ n5_ n6_ n7_ n8_ n9_ n10_; clear hb hbox hg; have hnb46 := NB517_512.out; have hnc46 := NB512_517.out; have hnb47 := NB517_516.out; have hnc47 := NB516_517.out; have hcz48_0 : w45.cell? ⟨gb517, 0, none⟩ = some (.int .i64 0) := (blk_cell BK517.out 0).trans rfl; have hcz48_1 : w45.cell? ⟨gb517, 1, none⟩ = some (.int .i64 0) := (blk_cell BK517.out 1).trans rfl; have hfz48_0 := blk_frozen BK517.out 0; have hfz48_1 := blk_frozen BK517.out 1; have p518 : 0 ≤ ((ji36) : Int) := of_decide_eq_true (by first | (with_reducible assumption) | assumption); have q518 : (ji36) < (t505.length : Int) := of_decide_eq_true (by first | (with_reducible assumption) | assumption); obtain ⟨ad518, e518, hx518_0, hx518_1⟩ := at_T30 (Kd.R_reads' HO_3.out).2.2 (ji36) p518 q518; cases e518; have hn518_0 : ad518.block ≠ gb517 := Kd.own_blk ((by first | exact Kd.R_ne HO_3.out BK517.out (by decide) | exact Kd.R_away HO_3.out (fun _ hk => by first | exact hk.2 | exact hk.1.2 | exact hk.2.1 | exact hk.2.2 | exact hk.1.1.2 | exact hk.2.2.1 | exact hk.2.2.2 | exact hk.1))); have hn518_1 : ad518.block ≠ gb517 := Kd.own_blk ((by first | exact Kd.R_ne HO_3.out BK517.out (by decide) | exact Kd.R_away HO_3.out (fun _ hk => by first | exact hk.2 | exact hk.1.2 | exact hk.2.1 | exact hk.2.2 | exact hk.1.1.2 | exact hk.2.2.1 | exact hk.2.2.2 | exact hk.1))); replace hx518_0 := (cell_far (p := ⟨gb517, 0, none⟩) (by first | (rw [add_block]; exact hn518_0) | (show (Addr.add _ _).block ≠ _; rw [add_block]; exact hn518_0) | exact hn518_0) (.int .i64 1000000)).trans hx518_0; replace hx518_1 := (cell_far (p := ⟨gb517, 0, none⟩) (by first | (rw [add_block]; exact hn518_0) | (show (Addr.add _ _).block ≠ _; rw [add_block]; exact hn518_0) | exact hn518_0) (.int .i64 1000000)).trans hx518_1; replace hx518_0 := (cell_far (p := ⟨gb517, 1, none⟩) (by first | (rw [add_block]; exact hn518_1) | (show (Addr.add _ _).block ≠ _; rw [add_block]; exact hn518_1) | exact hn518_1) (.int .i64 1000000)).trans hx518_0; replace hx518_1 := (cell_far (p := ⟨gb517, 1, none⟩) (by first | (rw [add_block]; exact hn518_1) | (show (Addr.add _ _).block ≠ _; rw [add_block]; exact hn518_1) | exact hn518_1) (.int .i64 1000000)).trans hx518_1; clear hn518_0; clear hn518_1; replace p518 := eq_true p518; replace q518 := eq_true q518))
            have n0_ : Aside0 (Kd.R k30 30 ((((w45.setCell ⟨gb517, 0, none⟩ (.int .i64 1000000)).setCell ⟨gb517, 1, none⟩ (.int .i64 1000000)).setCell ⟨gb517, 0, none⟩ (.int .i64 ((rd_T30 t505 (ji36)).f0))).setCell ⟨gb517, 1, none⟩ (.int .i64 ((rd_T30 t505 (ji36)).f1))) w.heap.size (fun k_ => k_ ≠ gb512 ∧ k_ ≠ gb516 ∧ k_ ≠ gb517) (.slice (some ad518) t505.length co8) t505) := ⟨by (with_reducible repeat (first | apply Kd.R_alloc | apply Kd.R_drewN | apply Kd.R_drew)); exact Kd.R_mono (Kd.R_far (p := ⟨gb517, 1, none⟩) (Kd.R_far (p := ⟨gb517, 0, none⟩) (Kd.R_far (p := ⟨gb517, 1, none⟩) (Kd.R_far (p := ⟨gb517, 0, none⟩) (Kd.R_mono HO_3.out (fun k_ hk => (⟨hk, hk.2⟩ : _ ∧ k_ ≠ gb517))) (fun _ hk => hk.2) (.int .i64 1000000)) (fun _ hk => hk.2) (.int .i64 1000000)) (fun _ hk => hk.2) (.int .i64 ((rd_T30 t505 (ji36)).f0))) (fun _ hk => hk.2) (.int .i64 ((rd_T30 t505 (ji36)).f1))) (fun _ hk => ⟨hk.1.1.1, ⟨hk.1.1.2, hk.1.2⟩⟩)⟩
            have n1_ : Aside0 (((((w45.setCell ⟨gb517, 0, none⟩ (.int .i64 1000000)).setCell ⟨gb517, 1, none⟩ (.int .i64 1000000)).setCell ⟨gb517, 0, none⟩ (.int .i64 ((rd_T30 t505 (ji36)).f0))).setCell ⟨gb517, 1, none⟩ (.int .i64 ((rd_T30 t505 (ji36)).f1))).heap[gb512]? = some (.cells #[.int .i64 t509, .int .i64 t510] 30 (0, 0))) := ⟨by (with_reducible repeat (first | refine blk_drewN ?_ _ | refine blk_drew ?_ | refine blk_alloc ?_ _)); refine blk_far ?_ NB512_517.out _; (with_reducible repeat (first | refine blk_drewN ?_ _ | refine blk_drew ?_ | refine blk_alloc ?_ _)); refine blk_far ?_ NB512_517.out _; (with_reducible repeat (first | refine blk_drewN ?_ _ | refine blk_drew ?_ | refine blk_alloc ?_ _)); refine blk_far ?_ NB512_517.out _; (with_reducible repeat (first | refine blk_drewN ?_ _ | refine blk_drew ?_ | refine blk_alloc ?_ _)); refine blk_far ?_ NB512_517.out _; (with_reducible repeat (first | refine blk_drewN ?_ _ | refine blk_drew ?_ | refine blk_alloc ?_ _)); exact BK512.out⟩
            have n2_ : Aside0 (((((w45.setCell ⟨gb517, 0, none⟩ (.int .i64 1000000)).setCell ⟨gb517, 1, none⟩ (.int .i64 1000000)).setCell ⟨gb517, 0, none⟩ (.int .i64 ((rd_T30 t505 (ji36)).f0))).setCell ⟨gb517, 1, none⟩ (.int .i64 ((rd_T30 t505 (ji36)).f1))).heap[gb516]? = some (.cells #[.int .i64 t513, .int .i64 t514] 30 (0, 0))) := ⟨by (with_reducible repeat (first | refine blk_drewN ?_ _ | refine blk_drew ?_ | refine blk_alloc ?_ _)); refine blk_far ?_ NB516_517.out _; (with_reducible repeat (first | refine blk_drewN ?_ _ | refine blk_drew ?_ | refine blk_alloc ?_ _)); refine blk_far ?_ NB516_517.out _; (with_reducible repeat (first | refine blk_drewN ?_ _ | refine blk_drew ?_ | refine blk_alloc ?_ _)); refine blk_far ?_ NB516_517.out _; (with_reducible repeat (first | refine blk_drewN ?_ _ | refine blk_drew ?_ | refine blk_alloc ?_ _)); refine blk_far ?_ NB516_517.out _; (with_reducible repeat (first | refine blk_drewN ?_ _ | refine blk_drew ?_ | refine blk_alloc ?_ _)); exact BK516.out⟩
            have n3_ : Aside0 (((((w45.setCell ⟨gb517, 0, none⟩ (.int .i64 1000000)).setCell ⟨gb517, 1, none⟩ (.int .i64 1000000)).setCell ⟨gb517, 0, none⟩ (.int .i64 ((rd_T30 t505 (ji36)).f0))).setCell ⟨gb517, 1, none⟩ (.int .i64 ((rd_T30 t505 (ji36)).f1))).heap[gb517]? = some (.cells #[.int .i64 ((rd_T30 t505 (ji36)).f0), .int .i64 ((rd_T30 t505 (ji36)).f1)] 30 (0, 0))) := ⟨by (with_reducible repeat (first | refine blk_drewN ?_ _ | refine blk_drew ?_ | refine blk_alloc ?_ _)); refine blk_put (cs := #[.int .i64 ((rd_T30 t505 (ji36)).f0), .int .i64 1000000]) ?_ 1 _ rfl; (with_reducible repeat (first | refine blk_drewN ?_ _ | refine blk_drew ?_ | refine blk_alloc ?_ _)); refine blk_put (cs := #[.int .i64 1000000, .int .i64 1000000]) ?_ 0 _ rfl; (with_reducible repeat (first | refine blk_drewN ?_ _ | refine blk_drew ?_ | refine blk_alloc ?_ _)); refine blk_put (cs := #[.int .i64 1000000, .int .i64 0]) ?_ 1 _ rfl; (with_reducible repeat (first | refine blk_drewN ?_ _ | refine blk_drew ?_ | refine blk_alloc ?_ _)); refine blk_put (cs := #[.int .i64 0, .int .i64 0]) ?_ 0 _ rfl; (with_reducible repeat (first | refine blk_drewN ?_ _ | refine blk_drew ?_ | refine blk_alloc ?_ _)); exact BK517.out⟩
            have n4_ : Aside0 (Below w.heap.size w ((((w45.setCell ⟨gb517, 0, none⟩ (.int .i64 1000000)).setCell ⟨gb517, 1, none⟩ (.int .i64 1000000)).setCell ⟨gb517, 0, none⟩ (.int .i64 ((rd_T30 t505 (ji36)).f0))).setCell ⟨gb517, 1, none⟩ (.int .i64 ((rd_T30 t505 (ji36)).f1)))) := ⟨by repeat (first | (with_reducible first | exact HB.out | apply below_alloc | apply pw_below_drewN | apply below_drew1 | refine below_set ?_ GE512.out | refine below_set ?_ GE516.out | refine below_set ?_ GE517.out) | exact HB.out)⟩
            (try clear HO_3)
            (try clear BK512)
            (try clear BK516)
            (try clear BK517)
            (try clear HB)
            generalize ((((w45.setCell ⟨gb517, 0, none⟩ (.int .i64 1000000)).setCell ⟨gb517, 1, none⟩ (.int .i64 1000000)).setCell ⟨gb517, 0, none⟩ (.int .i64 ((rd_T30 t505 (ji36)).f0))).setCell ⟨gb517, 1, none⟩ (.int .i64 ((rd_T30 t505 (ji36)).f1))) = w49 at n0_ n1_ n2_ n3_ n4_ ⊢
            have HO_3 := n0_
            have BK512 := n1_
            have BK516 := n2_
            have BK517 := n3_
            have HB := n4_
            clear n0_ n1_ n2_ n3_ n4_
            have n0_ := Aside0.mk (Kd.R_drew HO_3.out)
            have n1_ := Aside0.mk (blk_drew BK512.out)
            have n2_ := Aside0.mk (blk_drew BK516.out)
            have n3_ := Aside0.mk (blk_drew BK517.out)
            have n4_ := Aside0.mk (below_drew1 HB.out)
            clear HO_3
            clear BK512
            clear BK516
            clear BK517
            clear HB
            have HO_3 := n0_
            have BK512 := n1_
            have BK516 := n2_
            have BK517 := n3_
            have HB := n4_
            clear n0_ n1_ n2_ n3_ n4_
            have p519 : 0 ≤ (t506 : Int) := of_decide_eq_true (by first | (with_reducible assumption) | assumption)
            have q519 : t506 < (t505.length : Int) := of_decide_eq_true (by first | (with_reducible assumption) | assumption)
            obtain ⟨ad519, e519, hx519_0, hx519_1⟩ := at_T30 (Kd.R_reads' HO_3.out).2.2 t506 p519 q519
            obtain rfl : ad518 = ad519 := (by injection e519)
            replace p519 := eq_true p519
            replace q519 := eq_true q519
            refine start_ (n := 18) (S := fun w' => w'.cell? ⟨gb512, 0, none⟩ = some (.int .i64 t509) ∧ w'.cell? ⟨gb512, 1, none⟩ = some (.int .i64 t510) ∧ w'.cell? (ad518.add ((t506).toNat * 2)) = some (.int .i64 ((rd_T30 t505 t506).f0)) ∧ w'.cell? ⟨(ad518.add ((t506).toNat * 2)).block, (ad518.add ((t506).toNat * 2)).off + 1, none⟩ = some (.int .i64 ((rd_T30 t505 t506).f1))) (ds := []) #[false, false, false, false, false, false, false, false, false, false, false, false, false, false, false, false, false, false] (by kernel_rfl) rfl rfl ⟨(blk_cell BK512.out 0).trans rfl, (blk_cell BK512.out 1).trans rfl, hx519_0, hx519_1⟩ (fun hHeld => ?_); refine with_tabW laws_FnForwardOf.tab11 laws_FnForwardOf.bits11 (fun HT_ HW_ => ?_)
            generalize w49.drew = w50 at HO_3 BK512 BK516 BK517 HB hx519_0 hx519_1 hHeld ⊢
            refine pure_ (i := 0) (N := some 61) (v := ?_) (a' := ?_) #[true, false, false, false, false, false, false, false, false, false, false, false, false, false, false, false, false, false] rfl rfl (any_of HT_.out (by kernel_rfl)) (fun _ _ _ h => h) (Or.inl ⟨by rfl, ?_⟩) ?_ ?_
            rotate_left
            ·
             intro w'
             go_simp
             with_reducible rfl
            rotate_left
            ·
             simp only [Act.put, sa_, sb_, sc_, i64_w, i32_w]
             rfl
            refine pure_ (i := 3) (N := some 64) (v := ?_) (a' := ?_) #[true, false, false, true, false, false, false, false, false, false, false, false, false, false, false, false, false, false] rfl rfl (any_of HT_.out (by kernel_rfl)) (fun _ _ _ h => h) (Or.inl ⟨by rfl, ?_⟩) ?_ ?_
            rotate_left
            ·
             intro w'
             go_simp
             with_reducible rfl
            rotate_left
            ·
             simp only [Act.put, sa_, sb_, sc_, i64_w, i32_w]
             rfl
            refine pure_ (i := 7) (N := some 68) (v := ?_) (a' := ?_) #[true, false, false, true, false, false, false, true, false, false, false, false, false, false, false, false, false, false] rfl rfl (any_of HT_.out (by kernel_rfl)) (fun _ _ _ h => h) (Or.inl ⟨by rfl, ?_⟩) ?_ ?_
            rotate_left
            ·
             intro w'
             go_simp
             with_reducible rfl
            rotate_left
            ·
             simp only [Act.put, sa_, sb_, sc_, i64_w, i32_w]
             rfl
            refine pure_ (i := 8) (N := some 69) (v := ?_) (a' := ?_) #[true, false, false, true, false, false, false, true, true, false, false, false, false, false, false, false, false, false] rfl rfl (any_of HT_.out (by kernel_rfl)) (fun _ _ _ h => h) (Or.inl ⟨by rfl, ?_⟩) ?_ ?_
            rotate_left
            ·
             intro w'
             go_simp
             with_reducible rfl
            rotate_left
            ·
             simp only [Act.put, sa_, sb_, sc_, i64_w, i32_w]
             rfl
            refine pure_ (i := 9) (N := some 70) (v := ?_) (a' := ?_) #[true, false, false, true, false, false, false, true, true, true, false, false, false, false, false, false, false, false] rfl rfl (any_of HT_.out (by kernel_rfl)) (fun _ _ _ h => h) (Or.inl ⟨by rfl, ?_⟩) ?_ ?_
            rotate_left
            ·
             intro w'
             go_simp
             with_reducible rfl
            rotate_left
            ·
             simp only [Act.put, sa_, sb_, sc_, i64_w, i32_w]
             rfl
            refine take_ (i := 1) (N := some 62) (v := ?_) (a' := ?_) #[true, true, false, true, false, false, false, true, true, true, false, false, false, false, false, false, false, false] rfl rfl (take_ofW HT_.out HW_.out (by kernel_rfl)) (fun _ _ _ h => h) (Or.inl ⟨by rfl, ?_⟩) hHeld ?_ ?_
            rotate_left
            ·
             rintro w' ⟨s0, s1, s2, s3⟩
             go_simp
             with_reducible rfl
            rotate_left
            ·
             simp only [Act.put, sa_, sb_, sc_, i64_w, i32_w]
             rfl
            refine pure_ (i := 2) (N := some 63) (v := ?_) (a' := ?_) #[true, true, true, true, false, false, false, true, true, true, false, false, false, false, false, false, false, false] rfl rfl (any_of HT_.out (by kernel_rfl)) (fun _ _ _ h => h) (Or.inl ⟨by rfl, ?_⟩) ?_ ?_
            rotate_left
            ·
             intro w'
             go_simp
             with_reducible rfl
            rotate_left
            ·
             simp only [Act.put, sa_, sb_, sc_, i64_w, i32_w]
             rfl
            refine take_ (i := 4) (N := some 65) (v := ?_) (a' := ?_) #[true, true, true, true, true, false, false, true, true, true, false, false, false, false, false, false, false, false] rfl rfl (take_ofW HT_.out HW_.out (by kernel_rfl)) (fun _ _ _ h => h) (Or.inl ⟨by rfl, ?_⟩) hHeld ?_ ?_
            rotate_left
            ·
             rintro w' ⟨s0, s1, s2, s3⟩
             go_simp
             with_reducible rfl
            rotate_left
            ·
             simp only [Act.put, sa_, sb_, sc_, i64_w, i32_w]
             rfl
            refine pure_ (i := 5) (N := some 66) (v := ?_) (a' := ?_) #[true, true, true, true, true, true, false, true, true, true, false, false, false, false, false, false, false, false] rfl rfl (any_of HT_.out (by kernel_rfl)) (fun _ _ _ h => h) (Or.inl ⟨by rfl, ?_⟩) ?_ ?_
            rotate_left
            ·
             intro w'
             go_simp
             with_reducible rfl
            rotate_left
            ·
             simp only [Act.put, sa_, sb_, sc_, i64_w, i32_w]
             rfl
            refine pure_ (i := 6) (N := some 67) (v := ?_) (a' := ?_) #[true, true, true, true, true, true, true, true, true, true, false, false, false, false, false, false, false, false] rfl rfl (any_of HT_.out (by kernel_rfl)) (fun _ _ _ h => h) (Or.inl ⟨by rfl, ?_⟩) ?_ ?_
            rotate_left
            ·
             intro w'
             go_simp
             with_reducible rfl
            rotate_left
            ·
             simp only [Act.put, sa_, sb_, sc_, i64_w, i32_w]
             rfl
            refine take_ (i := 10) (N := some 71) (v := ?_) (a' := ?_) #[true, true, true, true, true, true, true, true, true, true, true, false, false, false, false, false, false, false] rfl rfl (take_ofW HT_.out HW_.out (by kernel_rfl)) (fun _ _ _ h => h) (Or.inl ⟨by rfl, ?_⟩) hHeld ?_ ?_
            rotate_left
            ·
             rintro w' ⟨s0, s1, s2, s3⟩
             go_simp
             with_reducible rfl
            rotate_left
            ·
             simp only [Act.put, sa_, sb_, sc_, i64_w, i32_w]
             rfl
            refine join_ (σ := Nat) 2 #[true, true, true, true, true, true, true, true, true, true, true, true, true, true, true, true, false, false] (fun s_ => [(72, .tuple #[.agg #[.int .i64 t520, .int .i64 t521], .bool true]), (10, .pointer (some ⟨s_, 0, none⟩)), (60, .tuple #[.agg #[.int .i64 t520, .int .i64 t521], .bool true]), (73, .agg #[.int .i64 t520, .int .i64 t521]), (74, .bool true)]) (fun s_ w' => (w'.cell? ⟨gb512, 0, none⟩ = some (.int .i64 t509) ∧ w'.cell? ⟨gb512, 1, none⟩ = some (.int .i64 t510) ∧ w'.cell? (ad518.add ((t506).toNat * 2)) = some (.int .i64 ((rd_T30 t505 t506).f0)) ∧ w'.cell? ⟨(ad518.add ((t506).toNat * 2)).block, (ad518.add ((t506).toNat * 2)).off + 1, none⟩ = some (.int .i64 ((rd_T30 t505 t506).f1))) ∧ (Kd.R k30 30 w' w.heap.size (fun k_ => k_ ≠ gb512 ∧ k_ ≠ gb516 ∧ k_ ≠ gb517 ∧ k_ ≠ s_) (.slice (some ad518) t505.length co8) t505) ∧ (w'.heap[gb512]? = some (.cells #[.int .i64 t509, .int .i64 t510] 30 (0, 0))) ∧ (w'.heap[gb516]? = some (.cells #[.int .i64 t513, .int .i64 t514] 30 (0, 0))) ∧ (w'.heap[gb517]? = some (.cells #[.int .i64 ((rd_T30 t505 (ji36)).f0), .int .i64 ((rd_T30 t505 (ji36)).f1)] 30 (0, 0))) ∧ (w'.heap[s_]? = some (.cells #[.int .i64 0, .int .i64 0] 30 (0, 0))) ∧ (w.heap.size ≤ s_) ∧ (w.heap.size ≤ s_) ∧ (gb512 ≠ s_) ∧ (s_ ≠ gb512) ∧ (gb516 ≠ s_) ∧ (s_ ≠ gb516) ∧ (gb517 ≠ s_) ∧ (s_ ≠ gb517) ∧ (Below w.heap.size w w')) ?_ ?_
            rotate_left
            ·
             intro hCont
             refine two_ (i := 11) (j := 15) (Ni := some 72) (Nj := some 10) #[true, true, true, true, true, true, true, true, true, true, true, true, false, false, false, false, false, false] #[true, true, true, true, true, true, true, true, true, true, true, false, false, false, false, true, false, false] rfl rfl rfl rfl (two_of HT_.out (by kernel_rfl)) (by decide) (by decide) (fun K hK => ?_) (fun K hK => ?_)
             ·
              skip
              refine goes_ Tryd.func21 (by kernel_rfl) rfl #[.agg #[.int .i64 (wrap64 (t509 + 1000000)), .int .i64 (wrap64 (t510 + 1000000))], .agg #[.int .i64 ((rd_T30 t505 t506).f0), .int .i64 ((rd_T30 t505 t506).f1)]] (by rfl) rfl rfl (by (try simp only [List.map_toArray, List.map_cons, List.map_nil]); first | done | rfl | (simp only [List.length_drop, List.length_take]; rfl)) ?_
              with_reducible refine (impl_MulRange.calls (wrap64 (t509 + 1000000)) (wrap64 (t510 + 1000000)) ((rd_T30 t505 t506).f0) ((rd_T30 t505 t506).f1) t520 t521 true _ ?side1 A41.out).mono ?_
              (case side1 => first | exact HTab.out | exact Tab.below HTab.out (bl_ HB))
              rintro e w51 ⟨rfl, hb⟩
              have HS2_ := (hb.cell (World.block_lt_of_cell? _ _ (hHeld.2.2.1))).trans (hHeld.2.2.1)
              have HS3_ := (hb.cell (World.block_lt_of_cell? _ _ (hHeld.2.2.2))).trans (hHeld.2.2.2)
              refine ⟨_, rfl, ?_⟩
              have n0_ := Aside0.mk (Kd.R_below (kr_ HO_3) hb)
              have n1_ := Aside0.mk (blk_below (g := gb512) (o := .cells #[.int .i64 t509, .int .i64 t510] 30 (0, 0)) (bk_ BK512) hb)
              have n2_ := Aside0.mk (blk_below (g := gb516) (o := .cells #[.int .i64 t513, .int .i64 t514] 30 (0, 0)) (bk_ BK516) hb)
              have n3_ := Aside0.mk (blk_below (g := gb517) (o := .cells #[.int .i64 ((rd_T30 t505 (ji36)).f0), .int .i64 ((rd_T30 t505 (ji36)).f1)] 30 (0, 0)) (bk_ BK517) hb)
              have n4_ := Aside0.mk (below_step (bl_ HB) hb)
              clear HO_3
              clear BK512
              clear BK516
              clear BK517
              clear HB
              have HO_3 := n0_
              have BK512 := n1_
              have BK516 := n2_
              have BK517 := n3_
              have HB := n4_
              clear n0_ n1_ n2_ n3_ n4_
              (try clear hb)
              (try clear hb2)
              (try clear hk)
              (try clear hi)
              refine hK.out _ _ ⟨(blk_cell BK512.out 0).trans rfl, (blk_cell BK512.out 1).trans rfl, HS2_, HS3_⟩ (fun hHeld => ?_)
              clear hK K
              refine norm_ (a' := ?_) ?_ ?_
              rotate_left
              ·
               show Act.put _ (some 72) _ = _
               simp only [Act.put, sa_, sb_, sc_, i64_w, i32_w]
               rfl
              refine pure_ (i := 12) (N := some 60) (v := ?_) (a' := ?_) #[true, true, true, true, true, true, true, true, true, true, true, true, true, false, false, false, false, false] rfl rfl (any_of HT_.out (by kernel_rfl)) (fun _ _ _ h => h) (Or.inl ⟨by rfl, ?_⟩) ?_ ?_
              rotate_left
              ·
               intro w'
               go_simp
               with_reducible rfl
              rotate_left
              ·
               simp only [Act.put, sa_, sb_, sc_, i64_w, i32_w]
               rfl
              refine pure_ (i := 13) (N := some 73) (v := ?_) (a' := ?_) #[true, true, true, true, true, true, true, true, true, true, true, true, true, true, false, false, false, false] rfl rfl (any_of HT_.out (by kernel_rfl)) (fun _ _ _ h => h) (Or.inl ⟨by rfl, ?_⟩) ?_ ?_
              rotate_left
              ·
               intro w'
               go_simp
               with_reducible rfl
              rotate_left
              ·
               simp only [Act.put, sa_, sb_, sc_, i64_w, i32_w]
               rfl
              refine pure_ (i := 14) (N := some 74) (v := ?_) (a' := ?_) #[true, true, true, true, true, true, true, true, true, true, true, true, true, true, true, false, false, false] rfl rfl (any_of HT_.out (by kernel_rfl)) (fun _ _ _ h => h) (Or.inl ⟨by rfl, ?_⟩) ?_ ?_
              rotate_left
              ·
               intro w'
               go_simp
               with_reducible rfl
              rotate_left
              ·
               simp only [Act.put, sa_, sb_, sc_, i64_w, i32_w]
               rfl
              refine one_ (i := 15) (N := some 10) #[true, true, true, true, true, true, true, true, true, true, true, true, true, true, true, true, false, false] rfl rfl (one_of HT_.out (by kernel_rfl)) (by decide) (fun K hK => ?_)
              refine box_step ?hg (N := 10) ?hd (cs := #[.int .i64 0, .int .i64 0]) (t := 30) ?hr ?_; (case hd => rfl); (case hg => rfl); (case hr => first | (go_simp; done) | (go_simp; rfl))
              intro gb523 hg w52 hbox hb
              have HS2_ := (hb.cell (World.block_lt_of_cell? _ _ (hHeld.2.2.1))).trans (hHeld.2.2.1)
              have HS3_ := (hb.cell (World.block_lt_of_cell? _ _ (hHeld.2.2.2))).trans (hHeld.2.2.2)
              have n0_ := Aside0.mk (Kd.R_below (Kd.R_elderB (kr_ HO_3) gb523 (Nat.le_of_eq hg.symm)) hb)
              have n1_ := Aside0.mk (blk_below (g := gb512) (o := .cells #[.int .i64 t509, .int .i64 t510] 30 (0, 0)) (bk_ BK512) hb)
              have n2_ := Aside0.mk (blk_below (g := gb516) (o := .cells #[.int .i64 t513, .int .i64 t514] 30 (0, 0)) (bk_ BK516) hb)
              have n3_ := Aside0.mk (blk_below (g := gb517) (o := .cells #[.int .i64 ((rd_T30 t505 (ji36)).f0), .int .i64 ((rd_T30 t505 (ji36)).f1)] 30 (0, 0)) (bk_ BK517) hb)
              have n4_ := Aside0.mk (below_step (bl_ HB) hb)
              have n5_ := Aside0.mk (hbox)
              have n6_ := Aside0.mk ((by rw [hg]; exact (below_size (bl_ HB)) : w.heap.size ≤ gb523))
              have n7_ := Aside0.mk ((by rw [hg]; exact (below_size (bl_ HB)) : w.heap.size ≤ gb523))
              have n8_ := Aside0.mk ((by rw [hg]; exact Nat.ne_of_lt (blk_lt (g := gb512) (o := .cells #[.int .i64 t509, .int .i64 t510] 30 (0, 0)) (bk_ BK512)) : gb512 ≠ gb523))
              have n9_ := Aside0.mk ((by rw [hg]; exact Nat.ne_of_gt (blk_lt (g := gb512) (o := .cells #[.int .i64 t509, .int .i64 t510] 30 (0, 0)) (bk_ BK512)) : gb523 ≠ gb512))
              have n10_ := Aside0.mk ((by rw [hg]; exact Nat.ne_of_lt (blk_lt (g := gb516) (o := .cells #[.int .i64 t513, .int .i64 t514] 30 (0, 0)) (bk_ BK516)) : gb516 ≠ gb523))
              have n11_ := Aside0.mk ((by rw [hg]; exact Nat.ne_of_gt (blk_lt (g := gb516) (o := .cells #[.int .i64 t513, .int .i64 t514] 30 (0, 0)) (bk_ BK516)) : gb523 ≠ gb516))
              have n12_ := Aside0.mk ((by rw [hg]; exact Nat.ne_of_lt (blk_lt (g := gb517) (o := .cells #[.int .i64 ((rd_T30 t505 (ji36)).f0), .int .i64 ((rd_T30 t505 (ji36)).f1)] 30 (0, 0)) (bk_ BK517)) : gb517 ≠ gb523))
              have n13_ := Aside0.mk ((by rw [hg]; exact Nat.ne_of_gt (blk_lt (g := gb517) (o := .cells #[.int .i64 ((rd_T30 t505 (ji36)).f0), .int .i64 ((rd_T30 t505 (ji36)).f1)] 30 (0, 0)) (bk_ BK517)) : gb523 ≠ gb517))
              clear HO_3
              clear BK512
              clear BK516
              clear BK517
              clear HB
              have HO_3 := n0_
              have BK512 := n1_
              have BK516 := n2_
              have BK517 := n3_
              have HB := n4_
              have BK523 := n5_
              have GW523 := n6_
              have GE523 := n7_
              have NB512_523 := n8_
              have NB523_512 := n9_
              have NB516_523 := n10_
              have NB523_516 := n11_
              have NB517_523 := n12_
              have NB523_517 := n13_
              clear n0_ n1_ n2_ n3_ n4_ n5_ n6_ n7_ n8_ n9_ n10_ n11_ n12_ n13_
              clear hb hbox hg
              refine hK.out _ _ ⟨(blk_cell BK512.out 0).trans rfl, (blk_cell BK512.out 1).trans rfl, HS2_, HS3_⟩ (fun hHeld => ?_)
              clear hK K
              refine norm_ (a' := ?_) ?_ ?_
              rotate_left
              ·
               show Act.put _ (some 10) _ = _
               simp only [Act.put, sa_, sb_, sc_, i64_w, i32_w]
               rfl
              exact norm_ (by simp only [putAll, Act.put, sa_, sb_, sc_]) (hCont (gb523) _ ⟨hHeld, (by (with_reducible repeat (first | apply Kd.R_alloc | apply Kd.R_drewN | apply Kd.R_drew)); exact Kd.R_mono HO_3.out (fun _ hk => ⟨hk.1.1, ⟨hk.1.2.1, ⟨hk.1.2.2, hk.2⟩⟩⟩)), (bk_ BK512), (bk_ BK516), (bk_ BK517), (bk_ BK523), GW523.out, GE523.out, NB512_523.out, NB523_512.out, NB516_523.out, NB523_516.out, NB517_523.out, NB523_517.out, (bl_ HB)⟩)
             ·
              skip
              refine box_step ?hg (N := 10) ?hd (cs := #[.int .i64 0, .int .i64 0]) (t := 30) ?hr ?_; (case hd => rfl); (case hg => rfl); (case hr => first | (go_simp; done) | (go_simp; rfl))
              intro gb523 hg w51 hbox hb
              have HS2_ := (hb.cell (World.block_lt_of_cell? _ _ (hHeld.2.2.1))).trans (hHeld.2.2.1)
              have HS3_ := (hb.cell (World.block_lt_of_cell? _ _ (hHeld.2.2.2))).trans (hHeld.2.2.2)
              have n0_ := Aside0.mk (Kd.R_below (Kd.R_elderB (kr_ HO_3) gb523 (Nat.le_of_eq hg.symm)) hb)
              have n1_ := Aside0.mk (blk_below (g := gb512) (o := .cells #[.int .i64 t509, .int .i64 t510] 30 (0, 0)) (bk_ BK512) hb)
              have n2_ := Aside0.mk (blk_below (g := gb516) (o := .cells #[.int .i64 t513, .int .i64 t514] 30 (0, 0)) (bk_ BK516) hb)
              have n3_ := Aside0.mk (blk_below (g := gb517) (o := .cells #[.int .i64 ((rd_T30 t505 (ji36)).f0), .int .i64 ((rd_T30 t505 (ji36)).f1)] 30 (0, 0)) (bk_ BK517) hb)
              have n4_ := Aside0.mk (below_step (bl_ HB) hb)
              have n5_ := Aside0.mk (hbox)
              have n6_ := Aside0.mk ((by rw [hg]; exact (below_size (bl_ HB)) : w.heap.size ≤ gb523))
              have n7_ := Aside0.mk ((by rw [hg]; exact (below_size (bl_ HB)) : w.heap.size ≤ gb523))
              have n8_ := Aside0.mk ((by rw [hg]; exact Nat.ne_of_lt (blk_lt (g := gb512) (o := .cells #[.int .i64 t509, .int .i64 t510] 30 (0, 0)) (bk_ BK512)) : gb512 ≠ gb523))
              have n9_ := Aside0.mk ((by rw [hg]; exact Nat.ne_of_gt (blk_lt (g := gb512) (o := .cells #[.int .i64 t509, .int .i64 t510] 30 (0, 0)) (bk_ BK512)) : gb523 ≠ gb512))
              have n10_ := Aside0.mk ((by rw [hg]; exact Nat.ne_of_lt (blk_lt (g := gb516) (o := .cells #[.int .i64 t513, .int .i64 t514] 30 (0, 0)) (bk_ BK516)) : gb516 ≠ gb523))
              have n11_ := Aside0.mk ((by rw [hg]; exact Nat.ne_of_gt (blk_lt (g := gb516) (o := .cells #[.int .i64 t513, .int .i64 t514] 30 (0, 0)) (bk_ BK516)) : gb523 ≠ gb516))
              have n12_ := Aside0.mk ((by rw [hg]; exact Nat.ne_of_lt (blk_lt (g := gb517) (o := .cells #[.int .i64 ((rd_T30 t505 (ji36)).f0), .int .i64 ((rd_T30 t505 (ji36)).f1)] 30 (0, 0)) (bk_ BK517)) : gb517 ≠ gb523))
              have n13_ := Aside0.mk ((by rw [hg]; exact Nat.ne_of_gt (blk_lt (g := gb517) (o := .cells #[.int .i64 ((rd_T30 t505 (ji36)).f0), .int .i64 ((rd_T30 t505 (ji36)).f1)] 30 (0, 0)) (bk_ BK517)) : gb523 ≠ gb517))
              clear HO_3
              clear BK512
              clear BK516
              clear BK517
              clear HB
              have HO_3 := n0_
              have BK512 := n1_
              have BK516 := n2_
              have BK517 := n3_
              have HB := n4_
              have BK523 := n5_
              have GW523 := n6_
              have GE523 := n7_
              have NB512_523 := n8_
              have NB523_512 := n9_
              have NB516_523 := n10_
              have NB523_516 := n11_
              have NB517_523 := n12_
              have NB523_517 := n13_
              clear n0_ n1_ n2_ n3_ n4_ n5_ n6_ n7_ n8_ n9_ n10_ n11_ n12_ n13_
              clear hb hbox hg
              refine hK.out _ _ ⟨(blk_cell BK512.out 0).trans rfl, (blk_cell BK512.out 1).trans rfl, HS2_, HS3_⟩ (fun hHeld => ?_)
              clear hK K
              refine norm_ (a' := ?_) ?_ ?_
              rotate_left
              ·
               show Act.put _ (some 10) _ = _
               simp only [Act.put, sa_, sb_, sc_, i64_w, i32_w]
               rfl
              refine one_ (i := 11) (N := some 72) #[true, true, true, true, true, true, true, true, true, true, true, true, false, false, false, true, false, false] rfl rfl (one_of HT_.out (by kernel_rfl)) (by decide) (fun K hK => ?_)
              refine goes_ Tryd.func21 (by kernel_rfl) rfl #[.agg #[.int .i64 (wrap64 (t509 + 1000000)), .int .i64 (wrap64 (t510 + 1000000))], .agg #[.int .i64 ((rd_T30 t505 t506).f0), .int .i64 ((rd_T30 t505 t506).f1)]] (by rfl) rfl rfl (by (try simp only [List.map_toArray, List.map_cons, List.map_nil]); first | done | rfl | (simp only [List.length_drop, List.length_take]; rfl)) ?_
              with_reducible refine (impl_MulRange.calls (wrap64 (t509 + 1000000)) (wrap64 (t510 + 1000000)) ((rd_T30 t505 t506).f0) ((rd_T30 t505 t506).f1) t520 t521 true _ ?side1 A41.out).mono ?_
              (case side1 => first | exact HTab.out | exact Tab.below HTab.out (bl_ HB))
              rintro e w52 ⟨rfl, hb⟩
              have HS2_ := (hb.cell (World.block_lt_of_cell? _ _ (hHeld.2.2.1))).trans (hHeld.2.2.1)
              have HS3_ := (hb.cell (World.block_lt_of_cell? _ _ (hHeld.2.2.2))).trans (hHeld.2.2.2)
              refine ⟨_, rfl, ?_⟩
              have n0_ := Aside0.mk (Kd.R_below (kr_ HO_3) hb)
              have n1_ := Aside0.mk (blk_below (g := gb512) (o := .cells #[.int .i64 t509, .int .i64 t510] 30 (0, 0)) (bk_ BK512) hb)
              have n2_ := Aside0.mk (blk_below (g := gb516) (o := .cells #[.int .i64 t513, .int .i64 t514] 30 (0, 0)) (bk_ BK516) hb)
              have n3_ := Aside0.mk (blk_below (g := gb517) (o := .cells #[.int .i64 ((rd_T30 t505 (ji36)).f0), .int .i64 ((rd_T30 t505 (ji36)).f1)] 30 (0, 0)) (bk_ BK517) hb)
              have n4_ := Aside0.mk (blk_below (g := gb523) (o := .cells #[.int .i64 0, .int .i64 0] 30 (0, 0)) (bk_ BK523) hb)
              have n5_ := Aside0.mk (below_step (bl_ HB) hb)
              clear HO_3
              clear BK512
              clear BK516
              clear BK517
              clear BK523
              clear HB
              have HO_3 := n0_
              have BK512 := n1_
              have BK516 := n2_
              have BK517 := n3_
              have BK523 := n4_
              have HB := n5_
              clear n0_ n1_ n2_ n3_ n4_ n5_
              (try clear hb)
              (try clear hb2)
              (try clear hk)
              (try clear hi)
              refine hK.out _ _ ⟨(blk_cell BK512.out 0).trans rfl, (blk_cell BK512.out 1).trans rfl, HS2_, HS3_⟩ (fun hHeld => ?_)
              clear hK K
              refine norm_ (a' := ?_) ?_ ?_
              rotate_left
              ·
               show Act.put _ (some 72) _ = _
               simp only [Act.put, sa_, sb_, sc_, i64_w, i32_w]
               rfl
              refine pure_ (i := 12) (N := some 60) (v := ?_) (a' := ?_) #[true, true, true, true, true, true, true, true, true, true, true, true, true, false, false, true, false, false] rfl rfl (any_of HT_.out (by kernel_rfl)) (fun _ _ _ h => h) (Or.inl ⟨by rfl, ?_⟩) ?_ ?_
              rotate_left
              ·
               intro w'
               go_simp
               with_reducible rfl
              rotate_left
              ·
               simp only [Act.put, sa_, sb_, sc_, i64_w, i32_w]
               rfl
              refine pure_ (i := 13) (N := some 73) (v := ?_) (a' := ?_) #[true, true, true, true, true, true, true, true, true, true, true, true, true, true, false, true, false, false] rfl rfl (any_of HT_.out (by kernel_rfl)) (fun _ _ _ h => h) (Or.inl ⟨by rfl, ?_⟩) ?_ ?_
              rotate_left
              ·
               intro w'
               go_simp
               with_reducible rfl
              rotate_left
              ·
               simp only [Act.put, sa_, sb_, sc_, i64_w, i32_w]
               rfl
              refine pure_ (i := 14) (N := some 74) (v := ?_) (a' := ?_) #[true, true, true, true, true, true, true, true, true, true, true, true, true, true, true, true, false, false] rfl rfl (any_of HT_.out (by kernel_rfl)) (fun _ _ _ h => h) (Or.inl ⟨by rfl, ?_⟩) ?_ ?_
              rotate_left
              ·
               intro w'
               go_simp
               with_reducible rfl
              rotate_left
              ·
               simp only [Act.put, sa_, sb_, sc_, i64_w, i32_w]
               rfl
              exact norm_ (by simp only [putAll, Act.put, sa_, sb_, sc_]) (hCont (gb523) _ ⟨hHeld, (by (with_reducible repeat (first | apply Kd.R_alloc | apply Kd.R_drewN | apply Kd.R_drew)); exact Kd.R_mono HO_3.out (fun _ hk => ⟨hk.1.1, ⟨hk.1.2.1, ⟨hk.1.2.2, hk.2⟩⟩⟩)), (bk_ BK512), (bk_ BK516), (bk_ BK517), (bk_ BK523), GW523.out, GE523.out, NB512_523.out, NB523_512.out, NB516_523.out, NB523_516.out, NB517_523.out, NB523_517.out, (bl_ HB)⟩)
            rintro gb523 w53 ⟨hS_, h0_, h1_, h2_, h3_, h4_, h5_, h6_, h7_, h8_, h9_, h10_, h11_, h12_, h13_⟩
            have n0_ : Aside0 (Kd.R k30 30 w53 w.heap.size (fun k_ => k_ ≠ gb512 ∧ k_ ≠ gb516 ∧ k_ ≠ gb517 ∧ k_ ≠ gb523) (.slice (some ad518) t505.length co8) t505) := ⟨h0_⟩
            have n1_ : Aside0 (w53.heap[gb512]? = some (.cells #[.int .i64 t509, .int .i64 t510] 30 (0, 0))) := ⟨h1_⟩
            have n2_ : Aside0 (w53.heap[gb516]? = some (.cells #[.int .i64 t513, .int .i64 t514] 30 (0, 0))) := ⟨h2_⟩
            have n3_ : Aside0 (w53.heap[gb517]? = some (.cells #[.int .i64 ((rd_T30 t505 (ji36)).f0), .int .i64 ((rd_T30 t505 (ji36)).f1)] 30 (0, 0))) := ⟨h3_⟩
            have n4_ : Aside0 (w53.heap[gb523]? = some (.cells #[.int .i64 0, .int .i64 0] 30 (0, 0))) := ⟨h4_⟩
            have n5_ : Aside0 (w.heap.size ≤ gb523) := ⟨h5_⟩
            have n6_ : Aside0 (w.heap.size ≤ gb523) := ⟨h6_⟩
            have n7_ : Aside0 (gb512 ≠ gb523) := ⟨h7_⟩
            have n8_ : Aside0 (gb523 ≠ gb512) := ⟨h8_⟩
            have n9_ : Aside0 (gb516 ≠ gb523) := ⟨h9_⟩
            have n10_ : Aside0 (gb523 ≠ gb516) := ⟨h10_⟩
            have n11_ : Aside0 (gb517 ≠ gb523) := ⟨h11_⟩
            have n12_ : Aside0 (gb523 ≠ gb517) := ⟨h12_⟩
            have n13_ : Aside0 (Below w.heap.size w w53) := ⟨h13_⟩
            clear HO_3
            clear BK512
            clear BK516
            clear BK517
            clear HB
            clear h0_ h1_ h2_ h3_ h4_ h5_ h6_ h7_ h8_ h9_ h10_ h11_ h12_ h13_
            have HO_3 := n0_
            have BK512 := n1_
            have BK516 := n2_
            have BK517 := n3_
            have BK523 := n4_
            have GW523 := n5_
            have GE523 := n6_
            have NB512_523 := n7_
            have NB523_512 := n8_
            have NB516_523 := n9_
            have NB523_516 := n10_
            have NB517_523 := n11_
            have NB523_517 := n12_
            have HB := n13_
            clear n0_ n1_ n2_ n3_ n4_ n5_ n6_ n7_ n8_ n9_ n10_ n11_ n12_ n13_
            have hHeld : w53.cell? ⟨gb512, 0, none⟩ = some (.int .i64 t509) ∧ w53.cell? ⟨gb512, 1, none⟩ = some (.int .i64 t510) ∧ w53.cell? (ad518.add ((t506).toNat * 2)) = some (.int .i64 ((rd_T30 t505 t506).f0)) ∧ w53.cell? ⟨(ad518.add ((t506).toNat * 2)).block, (ad518.add ((t506).toNat * 2)).off + 1, none⟩ = some (.int .i64 ((rd_T30 t505 t506).f1)) := hS_
            refine norm_ (a' := ?_) ?_ ?_
            rotate_left
            ·
             simp only [putAll, Act.put, sa_, sb_, sc_]
             rfl
            refine one_ (i := 16) (N := none) #[true, true, true, true, true, true, true, true, true, true, true, true, true, true, true, true, true, false] rfl rfl (one_of HT_.out (by kernel_rfl)) (by decide) (fun K hK => ?_)
            have hs54 : w53.cell? ⟨gb523, 0, none⟩ = some (.int .i64 0) := (blk_cell BK523.out 0).trans rfl
            have hfs54 := blk_frozen BK523.out 0
            have hns54_0 := NB512_523.out
            have hns54_1 := NB516_523.out
            have hns54_2 := NB517_523.out
            have hms54_0 := NB523_512.out
            have hms54_1 := NB523_516.out
            have hms54_2 := NB523_517.out
            have hs55 : w53.cell? ⟨gb523, 1, none⟩ = some (.int .i64 0) := (blk_cell BK523.out 1).trans rfl
            have hfs55 := blk_frozen BK523.out 1
            have hns55_0 := NB512_523.out
            have hns55_1 := NB516_523.out
            have hns55_2 := NB517_523.out
            have hms55_0 := NB523_512.out
            have hms55_1 := NB523_516.out
            have hms55_2 := NB523_517.out
            refine skip_ (w1 := ?_) (by rfl) rfl ?_ ?_
            rotate_left
            ·
             go_simp
             rfl
            refine hK.out _ _ ⟨((cell_far (p := ⟨gb523, _, none⟩) NB512_523.out _).trans (((cell_far (p := ⟨gb523, _, none⟩) NB512_523.out _).trans (hHeld.1)))), ((cell_far (p := ⟨gb523, _, none⟩) NB512_523.out _).trans (((cell_far (p := ⟨gb523, _, none⟩) NB512_523.out _).trans (hHeld.2.1)))), ((cell_far (p := ⟨gb523, _, none⟩) (by first | exact Kd.own_blk (Kd.R_away HO_3.out (fun _ hk => hk.2.2.2)) | (rw [add_block]; exact Kd.own_blk (Kd.R_away HO_3.out (fun _ hk => hk.2.2.2))) | (show (Addr.add _ _).block ≠ _; rw [add_block]; exact Kd.own_blk (Kd.R_away HO_3.out (fun _ hk => hk.2.2.2))) | (dsimp only; exact Kd.own_blk (Kd.R_away HO_3.out (fun _ hk => hk.2.2.2)))) _).trans (((cell_far (p := ⟨gb523, _, none⟩) (by first | exact Kd.own_blk (Kd.R_away HO_3.out (fun _ hk => hk.2.2.2)) | (rw [add_block]; exact Kd.own_blk (Kd.R_away HO_3.out (fun _ hk => hk.2.2.2))) | (show (Addr.add _ _).block ≠ _; rw [add_block]; exact Kd.own_blk (Kd.R_away HO_3.out (fun _ hk => hk.2.2.2))) | (dsimp only; exact Kd.own_blk (Kd.R_away HO_3.out (fun _ hk => hk.2.2.2)))) _).trans (hHeld.2.2.1)))), ((cell_far (p := ⟨gb523, _, none⟩) (by first | exact Kd.own_blk (Kd.R_away HO_3.out (fun _ hk => hk.2.2.2)) | (rw [add_block]; exact Kd.own_blk (Kd.R_away HO_3.out (fun _ hk => hk.2.2.2))) | (show (Addr.add _ _).block ≠ _; rw [add_block]; exact Kd.own_blk (Kd.R_away HO_3.out (fun _ hk => hk.2.2.2))) | (dsimp only; exact Kd.own_blk (Kd.R_away HO_3.out (fun _ hk => hk.2.2.2)))) _).trans (((cell_far (p := ⟨gb523, _, none⟩) (by first | exact Kd.own_blk (Kd.R_away HO_3.out (fun _ hk => hk.2.2.2)) | (rw [add_block]; exact Kd.own_blk (Kd.R_away HO_3.out (fun _ hk => hk.2.2.2))) | (show (Addr.add _ _).block ≠ _; rw [add_block]; exact Kd.own_blk (Kd.R_away HO_3.out (fun _ hk => hk.2.2.2))) | (dsimp only; exact Kd.own_blk (Kd.R_away HO_3.out (fun _ hk => hk.2.2.2)))) _).trans (hHeld.2.2.2))))⟩ (fun hHeld => ?_)
            clear hK K
            refine pure_ (i := 17) (N := some 11) (v := ?_) (a' := ?_) #[true, true, true, true, true, true, true, true, true, true, true, true, true, true, true, true, true, true] rfl rfl (any_of HT_.out (by kernel_rfl)) (fun _ _ _ h => h) (Or.inl ⟨by rfl, ?_⟩) ?_ ?_
            rotate_left
            ·
             intro w'
             go_simp
             with_reducible rfl
            rotate_left
            ·
             simp only [Act.put, sa_, sb_, sc_, i64_w, i32_w]
             rfl
            refine done_ (done_of HT_.out (by kernel_rfl)) ?_
            have hnb56 := NB512_516.out
            have hnc56 := NB516_512.out
            have hnb57 := NB512_523.out
            have hnc57 := NB523_512.out
            have hcz58_0 : w53.cell? ⟨gb512, 0, none⟩ = some (.int .i64 t509) := (blk_cell BK512.out 0).trans rfl
            have hcz58_1 : w53.cell? ⟨gb512, 1, none⟩ = some (.int .i64 t510) := (blk_cell BK512.out 1).trans rfl
            have hfz58_0 := blk_frozen BK512.out 0
            have hfz58_1 := blk_frozen BK512.out 1
            have hnb59 := NB517_523.out
            have hnc59 := NB523_517.out
            have hcz60_0 : w53.cell? ⟨gb517, 0, none⟩ = some (.int .i64 ((rd_T30 t505 (ji36)).f0)) := (blk_cell BK517.out 0).trans rfl
            have hcz60_1 : w53.cell? ⟨gb517, 1, none⟩ = some (.int .i64 ((rd_T30 t505 (ji36)).f1)) := (blk_cell BK517.out 1).trans rfl
            have hfz60_0 := blk_frozen BK517.out 0
            have hfz60_1 := blk_frozen BK517.out 1
            have hnb61 := NB523_516.out
            have hnc61 := NB516_523.out
            have hcz62_0 : w53.cell? ⟨gb523, 0, none⟩ = some (.int .i64 0) := (blk_cell BK523.out 0).trans rfl
            have hcz62_1 : w53.cell? ⟨gb523, 1, none⟩ = some (.int .i64 0) := (blk_cell BK523.out 1).trans rfl
            have hfz62_0 := blk_frozen BK523.out 0
            have hfz62_1 := blk_frozen BK523.out 1
            try go_wp2_with (first | (go_at_call 22; (with_reducible refine (laws_within.calls ((rd_T30 t505 (ji36)).f0) ((rd_T30 t505 (ji36)).f1) t520 t521 t524 _ A44.out).mono ?_); rintro e w63 ⟨rfl, hb⟩; have n0_ := Aside0.mk (Kd.R_below (by (with_reducible repeat (first | apply Kd.R_alloc | apply Kd.R_drewN | apply Kd.R_drew)); exact (Kd.R_mono (Kd.R_far (p := ⟨gb523, 1, none⟩) (Kd.R_far (p := ⟨gb523, 0, none⟩) (Kd.R_mono HO_3.out (fun k_ hk => (⟨hk, hk.2.2.2⟩ : _ ∧ k_ ≠ gb523))) (fun _ hk => hk.2) (.int .i64 t520)) (fun _ hk => hk.2) (.int .i64 t521)) (fun _ h_ => h_.1))) hb); have n1_ := Aside0.mk (blk_below (g := gb512) (o := .cells #[.int .i64 t509, .int .i64 t510] 30 (0, 0)) (by (with_reducible repeat (first | refine blk_drewN ?_ _ | refine blk_drew ?_ | refine blk_alloc ?_ _)); refine blk_far ?_ NB512_523.out _; (with_reducible repeat (first | refine blk_drewN ?_ _ | refine blk_drew ?_ | refine blk_alloc ?_ _)); refine blk_far ?_ NB512_523.out _; (with_reducible repeat (first | refine blk_drewN ?_ _ | refine blk_drew ?_ | refine blk_alloc ?_ _)); exact BK512.out) hb); have n2_ := Aside0.mk (blk_below (g := gb516) (o := .cells #[.int .i64 t513, .int .i64 t514] 30 (0, 0)) (by (with_reducible repeat (first | refine blk_drewN ?_ _ | refine blk_drew ?_ | refine blk_alloc ?_ _)); refine blk_far ?_ NB516_523.out _; (with_reducible repeat (first | refine blk_drewN ?_ _ | refine blk_drew ?_ | refine blk_alloc ?_ _)); refine blk_far ?_ NB516_523.out _; (with_reducible repeat (first | refine blk_drewN ?_ _ | refine blk_drew ?_ | refine blk_alloc ?_ _)); exact BK516.out) hb); have n3_ := Aside0.mk (blk_below (g := gb517) (o := .cells #[.int .i64 ((rd_T30 t505 (ji36)).f0), .int .i64 ((rd_T30 t505 (ji36)).f1)] 30 (0, 0)) (by (with_reducible repeat (first | refine blk_drewN ?_ _ | refine blk_drew ?_ | refine blk_alloc ?_ _)); refine blk_far ?_ NB517_523.out _; (with_reducible repeat (first | refine blk_drewN ?_ _ | refine blk_drew ?_ | refine blk_alloc ?_ _)); refine blk_far ?_ NB517_523.out _; (with_reducible repeat (first | refine blk_drewN ?_ _ | refine blk_drew ?_ | refine blk_alloc ?_ _)); exact BK517.out) hb); have n4_ := Aside0.mk (blk_below (g := gb523) (o := .cells #[.int .i64 t520, .int .i64 t521] 30 (0, 0)) (by (with_reducible repeat (first | refine blk_drewN ?_ _ | refine blk_drew ?_ | refine blk_alloc ?_ _)); refine blk_put (cs := #[.int .i64 t520, .int .i64 0]) ?_ 1 _ rfl; (with_reducible repeat (first | refine blk_drewN ?_ _ | refine blk_drew ?_ | refine blk_alloc ?_ _)); refine blk_put (cs := #[.int .i64 0, .int .i64 0]) ?_ 0 _ rfl; (with_reducible repeat (first | refine blk_drewN ?_ _ | refine blk_drew ?_ | refine blk_alloc ?_ _)); exact BK523.out) hb); have n5_ := Aside0.mk (below_step (bl_ HB) hb); clear HO_3; clear BK512; clear BK516; clear BK517; clear BK523; clear HB; have HO_3 := n0_; have BK512 := n1_; have BK516 := n2_; have BK517 := n3_; have BK523 := n4_; have HB := n5_; clear n0_ n1_ n2_ n3_ n4_ n5_; (try clear hb); (try clear hb2); (try clear hk); (try clear hi)))
            go_ret
            exact ⟨by first | rfl | (simp [errW_none, errW_some] <;> rfl) | (simp only [← hji36]; first | rfl | (simp [errW_none, errW_some] <;> rfl)) | (simp [*, errW_none, errW_some] <;> rfl), by repeat (first | (with_reducible first | exact HB.out | apply below_alloc | apply pw_below_drewN | apply below_drew1 | refine below_set ?_ GE512.out | refine below_set ?_ GE516.out | refine below_set ?_ GE517.out | refine below_set ?_ GE523.out) | exact HB.out)⟩
           ·
            replace c43 := Bool.eq_false_iff.mpr c43
            subst c43
            have H1 : (some true) = some r := by rw [if_neg (show ¬ (false = true) by decide)] at H; exact H
            clear H
            have H := H1
            clear H1
            obtain rfl := Option.some.inj H
            try go_wp2_with (first | ((with_reducible refine gate_dst (N := 9) rfl ?_); refine box_event ?hg (N := 9) ?hd (cs := #[.int .i64 0, .int .i64 0]) (t := 30) ?hr ?_; (case hd => rfl); (case hg => rfl); (case hr => first | (go_simp; done) | (go_simp; rfl)); intro gb517 hg w64 hbox hb; have n0_ := Aside0.mk (Kd.R_below (Kd.R_elderB (kr_ HO_3) gb517 (Nat.le_of_eq hg.symm)) hb); have n1_ := Aside0.mk (blk_below (g := gb512) (o := .cells #[.int .i64 t509, .int .i64 t510] 30 (0, 0)) (bk_ BK512) hb); have n2_ := Aside0.mk (blk_below (g := gb516) (o := .cells #[.int .i64 t513, .int .i64 t514] 30 (0, 0)) (bk_ BK516) hb); have n3_ := Aside0.mk (below_step (bl_ HB) hb); have n4_ := Aside0.mk (hbox); have n5_ := Aside0.mk ((by rw [hg]; exact (below_size (bl_ HB)) : w.heap.size ≤ gb517)); have n6_ := Aside0.mk ((by rw [hg]; exact (below_size (bl_ HB)) : w.heap.size ≤ gb517)); have n7_ := Aside0.mk ((by rw [hg]; exact Nat.ne_of_lt (blk_lt (g := gb512) (o := .cells #[.int .i64 t509, .int .i64 t510] 30 (0, 0)) (bk_ BK512)) : gb512 ≠ gb517)); have n8_ := Aside0.mk ((by rw [hg]; exact Nat.ne_of_gt (blk_lt (g := gb512) (o := .cells #[.int .i64 t509, .int .i64 t510] 30 (0, 0)) (bk_ BK512)) : gb517 ≠ gb512)); have n9_ := Aside0.mk ((by rw [hg]; exact Nat.ne_of_lt (blk_lt (g := gb516) (o := .cells #[.int .i64 t513, .int .i64 t514] 30 (0, 0)) (bk_ BK516)) : gb516 ≠ gb517)); have n10_ := Aside0.mk ((by rw [hg]; exact Nat.ne_of_gt (blk_lt (g := gb516) (o := .cells #[.int .i64 t513, .int .i64 t514] 30 (0, 0)) (bk_ BK516)) : gb517 ≠ gb516)); clear HO_3; clear BK512; clear BK516; clear HB; have HO_3 := n0_; have BK512 := n1_; have BK516 := n2_; have HB := n3_; have BK517 := n4_; have GW517 := n5_; have GE517 := n6_; have NB512_517 := n7_; have NB517_512 := n8_; have NB516_517 := n9_; have NB517_516 := n10_; clear n0_ n1_ n2_ n3_ n4_ n5_ n6_ n7_ n8_ n9_ n10_; clear hb hbox hg; have hnb65 := NB517_512.out; have hnc65 := NB512_517.out; have hnb66 := NB517_516.out; have hnc66 := NB516_517.out; have hcz67_0 : w64.cell? ⟨gb517, 0, none⟩ = some (.int .i64 0) := (blk_cell BK517.out 0).trans rfl; have hcz67_1 : w64.cell? ⟨gb517, 1, none⟩ = some (.int .i64 0) := (blk_cell BK517.out 1).trans rfl; have hfz67_0 := blk_frozen BK517.out 0; have hfz67_1 := blk_frozen BK517.out 1; have p518 : 0 ≤ ((ji36) : Int) := of_decide_eq_true (by first | (with_reducible assumption) | assumption); have q518 : (ji36) < (t505.length : Int) := of_decide_eq_true (by first | (with_reducible assumption) | assumption); obtain ⟨ad518, e518, hx518_0, hx518_1⟩ := at_T30 (Kd.R_reads' HO_3.out).2.2 (ji36) p518 q518; cases e518; have hn518_0 : ad518.block ≠ gb517 := Kd.own_blk ((by first | exact Kd.R_ne HO_3.out BK517.out (by decide) | exact Kd.R_away HO_3.out (fun _ hk => by first | exact hk.2 | exact hk.1.2 | exact hk.2.1 | exact hk.2.2 | exact hk.1.1.2 | exact hk.2.2.1 | exact hk.2.2.2 | exact hk.1))); have hn518_1 : ad518.block ≠ gb517 := Kd.own_blk ((by first | exact Kd.R_ne HO_3.out BK517.out (by decide) | exact Kd.R_away HO_3.out (fun _ hk => by first | exact hk.2 | exact hk.1.2 | exact hk.2.1 | exact hk.2.2 | exact hk.1.1.2 | exact hk.2.2.1 | exact hk.2.2.2 | exact hk.1))); replace hx518_0 := (cell_far (p := ⟨gb517, 0, none⟩) (by first | (rw [add_block]; exact hn518_0) | (show (Addr.add _ _).block ≠ _; rw [add_block]; exact hn518_0) | exact hn518_0) (.int .i64 1000000)).trans hx518_0; replace hx518_1 := (cell_far (p := ⟨gb517, 0, none⟩) (by first | (rw [add_block]; exact hn518_0) | (show (Addr.add _ _).block ≠ _; rw [add_block]; exact hn518_0) | exact hn518_0) (.int .i64 1000000)).trans hx518_1; replace hx518_0 := (cell_far (p := ⟨gb517, 1, none⟩) (by first | (rw [add_block]; exact hn518_1) | (show (Addr.add _ _).block ≠ _; rw [add_block]; exact hn518_1) | exact hn518_1) (.int .i64 1000000)).trans hx518_0; replace hx518_1 := (cell_far (p := ⟨gb517, 1, none⟩) (by first | (rw [add_block]; exact hn518_1) | (show (Addr.add _ _).block ≠ _; rw [add_block]; exact hn518_1) | exact hn518_1) (.int .i64 1000000)).trans hx518_1; clear hn518_0; clear hn518_1; replace p518 := eq_true p518; replace q518 := eq_true q518))
            have n0_ : Aside0 (Kd.R k30 30 ((((w64.setCell ⟨gb517, 0, none⟩ (.int .i64 1000000)).setCell ⟨gb517, 1, none⟩ (.int .i64 1000000)).setCell ⟨gb517, 0, none⟩ (.int .i64 ((rd_T30 t505 (ji36)).f0))).setCell ⟨gb517, 1, none⟩ (.int .i64 ((rd_T30 t505 (ji36)).f1))) w.heap.size (fun k_ => k_ ≠ gb512 ∧ k_ ≠ gb516 ∧ k_ ≠ gb517) (.slice (some ad518) t505.length co8) t505) := ⟨by (with_reducible repeat (first | apply Kd.R_alloc | apply Kd.R_drewN | apply Kd.R_drew)); exact Kd.R_mono (Kd.R_far (p := ⟨gb517, 1, none⟩) (Kd.R_far (p := ⟨gb517, 0, none⟩) (Kd.R_far (p := ⟨gb517, 1, none⟩) (Kd.R_far (p := ⟨gb517, 0, none⟩) (Kd.R_mono HO_3.out (fun k_ hk => (⟨hk, hk.2⟩ : _ ∧ k_ ≠ gb517))) (fun _ hk => hk.2) (.int .i64 1000000)) (fun _ hk => hk.2) (.int .i64 1000000)) (fun _ hk => hk.2) (.int .i64 ((rd_T30 t505 (ji36)).f0))) (fun _ hk => hk.2) (.int .i64 ((rd_T30 t505 (ji36)).f1))) (fun _ hk => ⟨hk.1.1.1, ⟨hk.1.1.2, hk.1.2⟩⟩)⟩
            have n1_ : Aside0 (((((w64.setCell ⟨gb517, 0, none⟩ (.int .i64 1000000)).setCell ⟨gb517, 1, none⟩ (.int .i64 1000000)).setCell ⟨gb517, 0, none⟩ (.int .i64 ((rd_T30 t505 (ji36)).f0))).setCell ⟨gb517, 1, none⟩ (.int .i64 ((rd_T30 t505 (ji36)).f1))).heap[gb512]? = some (.cells #[.int .i64 t509, .int .i64 t510] 30 (0, 0))) := ⟨by (with_reducible repeat (first | refine blk_drewN ?_ _ | refine blk_drew ?_ | refine blk_alloc ?_ _)); refine blk_far ?_ NB512_517.out _; (with_reducible repeat (first | refine blk_drewN ?_ _ | refine blk_drew ?_ | refine blk_alloc ?_ _)); refine blk_far ?_ NB512_517.out _; (with_reducible repeat (first | refine blk_drewN ?_ _ | refine blk_drew ?_ | refine blk_alloc ?_ _)); refine blk_far ?_ NB512_517.out _; (with_reducible repeat (first | refine blk_drewN ?_ _ | refine blk_drew ?_ | refine blk_alloc ?_ _)); refine blk_far ?_ NB512_517.out _; (with_reducible repeat (first | refine blk_drewN ?_ _ | refine blk_drew ?_ | refine blk_alloc ?_ _)); exact BK512.out⟩
            have n2_ : Aside0 (((((w64.setCell ⟨gb517, 0, none⟩ (.int .i64 1000000)).setCell ⟨gb517, 1, none⟩ (.int .i64 1000000)).setCell ⟨gb517, 0, none⟩ (.int .i64 ((rd_T30 t505 (ji36)).f0))).setCell ⟨gb517, 1, none⟩ (.int .i64 ((rd_T30 t505 (ji36)).f1))).heap[gb516]? = some (.cells #[.int .i64 t513, .int .i64 t514] 30 (0, 0))) := ⟨by (with_reducible repeat (first | refine blk_drewN ?_ _ | refine blk_drew ?_ | refine blk_alloc ?_ _)); refine blk_far ?_ NB516_517.out _; (with_reducible repeat (first | refine blk_drewN ?_ _ | refine blk_drew ?_ | refine blk_alloc ?_ _)); refine blk_far ?_ NB516_517.out _; (with_reducible repeat (first | refine blk_drewN ?_ _ | refine blk_drew ?_ | refine blk_alloc ?_ _)); refine blk_far ?_ NB516_517.out _; (with_reducible repeat (first | refine blk_drewN ?_ _ | refine blk_drew ?_ | refine blk_alloc ?_ _)); refine blk_far ?_ NB516_517.out _; (with_reducible repeat (first | refine blk_drewN ?_ _ | refine blk_drew ?_ | refine blk_alloc ?_ _)); exact BK516.out⟩
            have n3_ : Aside0 (((((w64.setCell ⟨gb517, 0, none⟩ (.int .i64 1000000)).setCell ⟨gb517, 1, none⟩ (.int .i64 1000000)).setCell ⟨gb517, 0, none⟩ (.int .i64 ((rd_T30 t505 (ji36)).f0))).setCell ⟨gb517, 1, none⟩ (.int .i64 ((rd_T30 t505 (ji36)).f1))).heap[gb517]? = some (.cells #[.int .i64 ((rd_T30 t505 (ji36)).f0), .int .i64 ((rd_T30 t505 (ji36)).f1)] 30 (0, 0))) := ⟨by (with_reducible repeat (first | refine blk_drewN ?_ _ | refine blk_drew ?_ | refine blk_alloc ?_ _)); refine blk_put (cs := #[.int .i64 ((rd_T30 t505 (ji36)).f0), .int .i64 1000000]) ?_ 1 _ rfl; (with_reducible repeat (first | refine blk_drewN ?_ _ | refine blk_drew ?_ | refine blk_alloc ?_ _)); refine blk_put (cs := #[.int .i64 1000000, .int .i64 1000000]) ?_ 0 _ rfl; (with_reducible repeat (first | refine blk_drewN ?_ _ | refine blk_drew ?_ | refine blk_alloc ?_ _)); refine blk_put (cs := #[.int .i64 1000000, .int .i64 0]) ?_ 1 _ rfl; (with_reducible repeat (first | refine blk_drewN ?_ _ | refine blk_drew ?_ | refine blk_alloc ?_ _)); refine blk_put (cs := #[.int .i64 0, .int .i64 0]) ?_ 0 _ rfl; (with_reducible repeat (first | refine blk_drewN ?_ _ | refine blk_drew ?_ | refine blk_alloc ?_ _)); exact BK517.out⟩
            have n4_ : Aside0 (Below w.heap.size w ((((w64.setCell ⟨gb517, 0, none⟩ (.int .i64 1000000)).setCell ⟨gb517, 1, none⟩ (.int .i64 1000000)).setCell ⟨gb517, 0, none⟩ (.int .i64 ((rd_T30 t505 (ji36)).f0))).setCell ⟨gb517, 1, none⟩ (.int .i64 ((rd_T30 t505 (ji36)).f1)))) := ⟨by repeat (first | (with_reducible first | exact HB.out | apply below_alloc | apply pw_below_drewN | apply below_drew1 | refine below_set ?_ GE512.out | refine below_set ?_ GE516.out | refine below_set ?_ GE517.out) | exact HB.out)⟩
            (try clear HO_3)
            (try clear BK512)
            (try clear BK516)
            (try clear BK517)
            (try clear HB)
            generalize ((((w64.setCell ⟨gb517, 0, none⟩ (.int .i64 1000000)).setCell ⟨gb517, 1, none⟩ (.int .i64 1000000)).setCell ⟨gb517, 0, none⟩ (.int .i64 ((rd_T30 t505 (ji36)).f0))).setCell ⟨gb517, 1, none⟩ (.int .i64 ((rd_T30 t505 (ji36)).f1))) = w68 at n0_ n1_ n2_ n3_ n4_ ⊢
            have HO_3 := n0_
            have BK512 := n1_
            have BK516 := n2_
            have BK517 := n3_
            have HB := n4_
            clear n0_ n1_ n2_ n3_ n4_
            have n0_ := Aside0.mk (Kd.R_drew HO_3.out)
            have n1_ := Aside0.mk (blk_drew BK512.out)
            have n2_ := Aside0.mk (blk_drew BK516.out)
            have n3_ := Aside0.mk (blk_drew BK517.out)
            have n4_ := Aside0.mk (below_drew1 HB.out)
            clear HO_3
            clear BK512
            clear BK516
            clear BK517
            clear HB
            have HO_3 := n0_
            have BK512 := n1_
            have BK516 := n2_
            have BK517 := n3_
            have HB := n4_
            clear n0_ n1_ n2_ n3_ n4_
            have p519 : 0 ≤ (t506 : Int) := of_decide_eq_true (by first | (with_reducible assumption) | assumption)
            have q519 : t506 < (t505.length : Int) := of_decide_eq_true (by first | (with_reducible assumption) | assumption)
            obtain ⟨ad519, e519, hx519_0, hx519_1⟩ := at_T30 (Kd.R_reads' HO_3.out).2.2 t506 p519 q519
            obtain rfl : ad518 = ad519 := (by injection e519)
            replace p519 := eq_true p519
            replace q519 := eq_true q519
            refine start_ (n := 18) (S := fun w' => w'.cell? ⟨gb512, 0, none⟩ = some (.int .i64 t509) ∧ w'.cell? ⟨gb512, 1, none⟩ = some (.int .i64 t510) ∧ w'.cell? (ad518.add ((t506).toNat * 2)) = some (.int .i64 ((rd_T30 t505 t506).f0)) ∧ w'.cell? ⟨(ad518.add ((t506).toNat * 2)).block, (ad518.add ((t506).toNat * 2)).off + 1, none⟩ = some (.int .i64 ((rd_T30 t505 t506).f1))) (ds := []) #[false, false, false, false, false, false, false, false, false, false, false, false, false, false, false, false, false, false] (by kernel_rfl) rfl rfl ⟨(blk_cell BK512.out 0).trans rfl, (blk_cell BK512.out 1).trans rfl, hx519_0, hx519_1⟩ (fun hHeld => ?_); refine with_tabW laws_FnForwardOf.tab11 laws_FnForwardOf.bits11 (fun HT_ HW_ => ?_)
            generalize w68.drew = w69 at HO_3 BK512 BK516 BK517 HB hx519_0 hx519_1 hHeld ⊢
            refine pure_ (i := 0) (N := some 61) (v := ?_) (a' := ?_) #[true, false, false, false, false, false, false, false, false, false, false, false, false, false, false, false, false, false] rfl rfl (any_of HT_.out (by kernel_rfl)) (fun _ _ _ h => h) (Or.inl ⟨by rfl, ?_⟩) ?_ ?_
            rotate_left
            ·
             intro w'
             go_simp
             with_reducible rfl
            rotate_left
            ·
             simp only [Act.put, sa_, sb_, sc_, i64_w, i32_w]
             rfl
            refine pure_ (i := 3) (N := some 64) (v := ?_) (a' := ?_) #[true, false, false, true, false, false, false, false, false, false, false, false, false, false, false, false, false, false] rfl rfl (any_of HT_.out (by kernel_rfl)) (fun _ _ _ h => h) (Or.inl ⟨by rfl, ?_⟩) ?_ ?_
            rotate_left
            ·
             intro w'
             go_simp
             with_reducible rfl
            rotate_left
            ·
             simp only [Act.put, sa_, sb_, sc_, i64_w, i32_w]
             rfl
            refine pure_ (i := 7) (N := some 68) (v := ?_) (a' := ?_) #[true, false, false, true, false, false, false, true, false, false, false, false, false, false, false, false, false, false] rfl rfl (any_of HT_.out (by kernel_rfl)) (fun _ _ _ h => h) (Or.inl ⟨by rfl, ?_⟩) ?_ ?_
            rotate_left
            ·
             intro w'
             go_simp
             with_reducible rfl
            rotate_left
            ·
             simp only [Act.put, sa_, sb_, sc_, i64_w, i32_w]
             rfl
            refine pure_ (i := 8) (N := some 69) (v := ?_) (a' := ?_) #[true, false, false, true, false, false, false, true, true, false, false, false, false, false, false, false, false, false] rfl rfl (any_of HT_.out (by kernel_rfl)) (fun _ _ _ h => h) (Or.inl ⟨by rfl, ?_⟩) ?_ ?_
            rotate_left
            ·
             intro w'
             go_simp
             with_reducible rfl
            rotate_left
            ·
             simp only [Act.put, sa_, sb_, sc_, i64_w, i32_w]
             rfl
            refine pure_ (i := 9) (N := some 70) (v := ?_) (a' := ?_) #[true, false, false, true, false, false, false, true, true, true, false, false, false, false, false, false, false, false] rfl rfl (any_of HT_.out (by kernel_rfl)) (fun _ _ _ h => h) (Or.inl ⟨by rfl, ?_⟩) ?_ ?_
            rotate_left
            ·
             intro w'
             go_simp
             with_reducible rfl
            rotate_left
            ·
             simp only [Act.put, sa_, sb_, sc_, i64_w, i32_w]
             rfl
            refine take_ (i := 1) (N := some 62) (v := ?_) (a' := ?_) #[true, true, false, true, false, false, false, true, true, true, false, false, false, false, false, false, false, false] rfl rfl (take_ofW HT_.out HW_.out (by kernel_rfl)) (fun _ _ _ h => h) (Or.inl ⟨by rfl, ?_⟩) hHeld ?_ ?_
            rotate_left
            ·
             rintro w' ⟨s0, s1, s2, s3⟩
             go_simp
             with_reducible rfl
            rotate_left
            ·
             simp only [Act.put, sa_, sb_, sc_, i64_w, i32_w]
             rfl
            refine pure_ (i := 2) (N := some 63) (v := ?_) (a' := ?_) #[true, true, true, true, false, false, false, true, true, true, false, false, false, false, false, false, false, false] rfl rfl (any_of HT_.out (by kernel_rfl)) (fun _ _ _ h => h) (Or.inl ⟨by rfl, ?_⟩) ?_ ?_
            rotate_left
            ·
             intro w'
             go_simp
             with_reducible rfl
            rotate_left
            ·
             simp only [Act.put, sa_, sb_, sc_, i64_w, i32_w]
             rfl
            refine take_ (i := 4) (N := some 65) (v := ?_) (a' := ?_) #[true, true, true, true, true, false, false, true, true, true, false, false, false, false, false, false, false, false] rfl rfl (take_ofW HT_.out HW_.out (by kernel_rfl)) (fun _ _ _ h => h) (Or.inl ⟨by rfl, ?_⟩) hHeld ?_ ?_
            rotate_left
            ·
             rintro w' ⟨s0, s1, s2, s3⟩
             go_simp
             with_reducible rfl
            rotate_left
            ·
             simp only [Act.put, sa_, sb_, sc_, i64_w, i32_w]
             rfl
            refine pure_ (i := 5) (N := some 66) (v := ?_) (a' := ?_) #[true, true, true, true, true, true, false, true, true, true, false, false, false, false, false, false, false, false] rfl rfl (any_of HT_.out (by kernel_rfl)) (fun _ _ _ h => h) (Or.inl ⟨by rfl, ?_⟩) ?_ ?_
            rotate_left
            ·
             intro w'
             go_simp
             with_reducible rfl
            rotate_left
            ·
             simp only [Act.put, sa_, sb_, sc_, i64_w, i32_w]
             rfl
            refine pure_ (i := 6) (N := some 67) (v := ?_) (a' := ?_) #[true, true, true, true, true, true, true, true, true, true, false, false, false, false, false, false, false, false] rfl rfl (any_of HT_.out (by kernel_rfl)) (fun _ _ _ h => h) (Or.inl ⟨by rfl, ?_⟩) ?_ ?_
            rotate_left
            ·
             intro w'
             go_simp
             with_reducible rfl
            rotate_left
            ·
             simp only [Act.put, sa_, sb_, sc_, i64_w, i32_w]
             rfl
            refine take_ (i := 10) (N := some 71) (v := ?_) (a' := ?_) #[true, true, true, true, true, true, true, true, true, true, true, false, false, false, false, false, false, false] rfl rfl (take_ofW HT_.out HW_.out (by kernel_rfl)) (fun _ _ _ h => h) (Or.inl ⟨by rfl, ?_⟩) hHeld ?_ ?_
            rotate_left
            ·
             rintro w' ⟨s0, s1, s2, s3⟩
             go_simp
             with_reducible rfl
            rotate_left
            ·
             simp only [Act.put, sa_, sb_, sc_, i64_w, i32_w]
             rfl
            refine join_ (σ := Nat) 2 #[true, true, true, true, true, true, true, true, true, true, true, true, true, true, true, true, false, false] (fun s_ => [(72, .tuple #[.agg #[.int .i64 t520, .int .i64 t521], .bool false]), (10, .pointer (some ⟨s_, 0, none⟩)), (60, .tuple #[.agg #[.int .i64 t520, .int .i64 t521], .bool false]), (73, .agg #[.int .i64 t520, .int .i64 t521]), (74, .bool false)]) (fun s_ w' => (w'.cell? ⟨gb512, 0, none⟩ = some (.int .i64 t509) ∧ w'.cell? ⟨gb512, 1, none⟩ = some (.int .i64 t510) ∧ w'.cell? (ad518.add ((t506).toNat * 2)) = some (.int .i64 ((rd_T30 t505 t506).f0)) ∧ w'.cell? ⟨(ad518.add ((t506).toNat * 2)).block, (ad518.add ((t506).toNat * 2)).off + 1, none⟩ = some (.int .i64 ((rd_T30 t505 t506).f1))) ∧ (Kd.R k30 30 w' w.heap.size (fun k_ => k_ ≠ gb512 ∧ k_ ≠ gb516 ∧ k_ ≠ gb517 ∧ k_ ≠ s_) (.slice (some ad518) t505.length co8) t505) ∧ (w'.heap[gb512]? = some (.cells #[.int .i64 t509, .int .i64 t510] 30 (0, 0))) ∧ (w'.heap[gb516]? = some (.cells #[.int .i64 t513, .int .i64 t514] 30 (0, 0))) ∧ (w'.heap[gb517]? = some (.cells #[.int .i64 ((rd_T30 t505 (ji36)).f0), .int .i64 ((rd_T30 t505 (ji36)).f1)] 30 (0, 0))) ∧ (w'.heap[s_]? = some (.cells #[.int .i64 0, .int .i64 0] 30 (0, 0))) ∧ (w.heap.size ≤ s_) ∧ (w.heap.size ≤ s_) ∧ (gb512 ≠ s_) ∧ (s_ ≠ gb512) ∧ (gb516 ≠ s_) ∧ (s_ ≠ gb516) ∧ (gb517 ≠ s_) ∧ (s_ ≠ gb517) ∧ (Below w.heap.size w w')) ?_ ?_
            rotate_left
            ·
             intro hCont
             refine two_ (i := 11) (j := 15) (Ni := some 72) (Nj := some 10) #[true, true, true, true, true, true, true, true, true, true, true, true, false, false, false, false, false, false] #[true, true, true, true, true, true, true, true, true, true, true, false, false, false, false, true, false, false] rfl rfl rfl rfl (two_of HT_.out (by kernel_rfl)) (by decide) (by decide) (fun K hK => ?_) (fun K hK => ?_)
             ·
              skip
              refine goes_ Tryd.func21 (by kernel_rfl) rfl #[.agg #[.int .i64 (wrap64 (t509 + 1000000)), .int .i64 (wrap64 (t510 + 1000000))], .agg #[.int .i64 ((rd_T30 t505 t506).f0), .int .i64 ((rd_T30 t505 t506).f1)]] (by rfl) rfl rfl (by (try simp only [List.map_toArray, List.map_cons, List.map_nil]); first | done | rfl | (simp only [List.length_drop, List.length_take]; rfl)) ?_
              with_reducible refine (impl_MulRange.calls (wrap64 (t509 + 1000000)) (wrap64 (t510 + 1000000)) ((rd_T30 t505 t506).f0) ((rd_T30 t505 t506).f1) t520 t521 false _ ?side1 A41.out).mono ?_
              (case side1 => first | exact HTab.out | exact Tab.below HTab.out (bl_ HB))
              rintro e w70 ⟨rfl, hb⟩
              have HS2_ := (hb.cell (World.block_lt_of_cell? _ _ (hHeld.2.2.1))).trans (hHeld.2.2.1)
              have HS3_ := (hb.cell (World.block_lt_of_cell? _ _ (hHeld.2.2.2))).trans (hHeld.2.2.2)
              refine ⟨_, rfl, ?_⟩
              have n0_ := Aside0.mk (Kd.R_below (kr_ HO_3) hb)
              have n1_ := Aside0.mk (blk_below (g := gb512) (o := .cells #[.int .i64 t509, .int .i64 t510] 30 (0, 0)) (bk_ BK512) hb)
              have n2_ := Aside0.mk (blk_below (g := gb516) (o := .cells #[.int .i64 t513, .int .i64 t514] 30 (0, 0)) (bk_ BK516) hb)
              have n3_ := Aside0.mk (blk_below (g := gb517) (o := .cells #[.int .i64 ((rd_T30 t505 (ji36)).f0), .int .i64 ((rd_T30 t505 (ji36)).f1)] 30 (0, 0)) (bk_ BK517) hb)
              have n4_ := Aside0.mk (below_step (bl_ HB) hb)
              clear HO_3
              clear BK512
              clear BK516
              clear BK517
              clear HB
              have HO_3 := n0_
              have BK512 := n1_
              have BK516 := n2_
              have BK517 := n3_
              have HB := n4_
              clear n0_ n1_ n2_ n3_ n4_
              (try clear hb)
              (try clear hb2)
              (try clear hk)
              (try clear hi)
              refine hK.out _ _ ⟨(blk_cell BK512.out 0).trans rfl, (blk_cell BK512.out 1).trans rfl, HS2_, HS3_⟩ (fun hHeld => ?_)
              clear hK K
              refine norm_ (a' := ?_) ?_ ?_
              rotate_left
              ·
               show Act.put _ (some 72) _ = _
               simp only [Act.put, sa_, sb_, sc_, i64_w, i32_w]
               rfl
              refine pure_ (i := 12) (N := some 60) (v := ?_) (a' := ?_) #[true, true, true, true, true, true, true, true, true, true, true, true, true, false, false, false, false, false] rfl rfl (any_of HT_.out (by kernel_rfl)) (fun _ _ _ h => h) (Or.inl ⟨by rfl, ?_⟩) ?_ ?_
              rotate_left
              ·
               intro w'
               go_simp
               with_reducible rfl
              rotate_left
              ·
               simp only [Act.put, sa_, sb_, sc_, i64_w, i32_w]
               rfl
              refine pure_ (i := 13) (N := some 73) (v := ?_) (a' := ?_) #[true, true, true, true, true, true, true, true, true, true, true, true, true, true, false, false, false, false] rfl rfl (any_of HT_.out (by kernel_rfl)) (fun _ _ _ h => h) (Or.inl ⟨by rfl, ?_⟩) ?_ ?_
              rotate_left
              ·
               intro w'
               go_simp
               with_reducible rfl
              rotate_left
              ·
               simp only [Act.put, sa_, sb_, sc_, i64_w, i32_w]
               rfl
              refine pure_ (i := 14) (N := some 74) (v := ?_) (a' := ?_) #[true, true, true, true, true, true, true, true, true, true, true, true, true, true, true, false, false, false] rfl rfl (any_of HT_.out (by kernel_rfl)) (fun _ _ _ h => h) (Or.inl ⟨by rfl, ?_⟩) ?_ ?_
              rotate_left
              ·
               intro w'
               go_simp
               with_reducible rfl
              rotate_left
              ·
               simp only [Act.put, sa_, sb_, sc_, i64_w, i32_w]
               rfl
              refine one_ (i := 15) (N := some 10) #[true, true, true, true, true, true, true, true, true, true, true, true, true, true, true, true, false, false] rfl rfl (one_of HT_.out (by kernel_rfl)) (by decide) (fun K hK => ?_)
              refine box_step ?hg (N := 10) ?hd (cs := #[.int .i64 0, .int .i64 0]) (t := 30) ?hr ?_; (case hd => rfl); (case hg => rfl); (case hr => first | (go_simp; done) | (go_simp; rfl))
              intro gb523 hg w71 hbox hb
              have HS2_ := (hb.cell (World.block_lt_of_cell? _ _ (hHeld.2.2.1))).trans (hHeld.2.2.1)
              have HS3_ := (hb.cell (World.block_lt_of_cell? _ _ (hHeld.2.2.2))).trans (hHeld.2.2.2)
              have n0_ := Aside0.mk (Kd.R_below (Kd.R_elderB (kr_ HO_3) gb523 (Nat.le_of_eq hg.symm)) hb)
              have n1_ := Aside0.mk (blk_below (g := gb512) (o := .cells #[.int .i64 t509, .int .i64 t510] 30 (0, 0)) (bk_ BK512) hb)
              have n2_ := Aside0.mk (blk_below (g := gb516) (o := .cells #[.int .i64 t513, .int .i64 t514] 30 (0, 0)) (bk_ BK516) hb)
              have n3_ := Aside0.mk (blk_below (g := gb517) (o := .cells #[.int .i64 ((rd_T30 t505 (ji36)).f0), .int .i64 ((rd_T30 t505 (ji36)).f1)] 30 (0, 0)) (bk_ BK517) hb)
              have n4_ := Aside0.mk (below_step (bl_ HB) hb)
              have n5_ := Aside0.mk (hbox)
              have n6_ := Aside0.mk ((by rw [hg]; exact (below_size (bl_ HB)) : w.heap.size ≤ gb523))
              have n7_ := Aside0.mk ((by rw [hg]; exact (below_size (bl_ HB)) : w.heap.size ≤ gb523))
              have n8_ := Aside0.mk ((by rw [hg]; exact Nat.ne_of_lt (blk_lt (g := gb512) (o := .cells #[.int .i64 t509, .int .i64 t510] 30 (0, 0)) (bk_ BK512)) : gb512 ≠ gb523))
              have n9_ := Aside0.mk ((by rw [hg]; exact Nat.ne_of_gt (blk_lt (g := gb512) (o := .cells #[.int .i64 t509, .int .i64 t510] 30 (0, 0)) (bk_ BK512)) : gb523 ≠ gb512))
              have n10_ := Aside0.mk ((by rw [hg]; exact Nat.ne_of_lt (blk_lt (g := gb516) (o := .cells #[.int .i64 t513, .int .i64 t514] 30 (0, 0)) (bk_ BK516)) : gb516 ≠ gb523))
              have n11_ := Aside0.mk ((by rw [hg]; exact Nat.ne_of_gt (blk_lt (g := gb516) (o := .cells #[.int .i64 t513, .int .i64 t514] 30 (0, 0)) (bk_ BK516)) : gb523 ≠ gb516))
              have n12_ := Aside0.mk ((by rw [hg]; exact Nat.ne_of_lt (blk_lt (g := gb517) (o := .cells #[.int .i64 ((rd_T30 t505 (ji36)).f0), .int .i64 ((rd_T30 t505 (ji36)).f1)] 30 (0, 0)) (bk_ BK517)) : gb517 ≠ gb523))
              have n13_ := Aside0.mk ((by rw [hg]; exact Nat.ne_of_gt (blk_lt (g := gb517) (o := .cells #[.int .i64 ((rd_T30 t505 (ji36)).f0), .int .i64 ((rd_T30 t505 (ji36)).f1)] 30 (0, 0)) (bk_ BK517)) : gb523 ≠ gb517))
              clear HO_3
              clear BK512
              clear BK516
              clear BK517
              clear HB
              have HO_3 := n0_
              have BK512 := n1_
              have BK516 := n2_
              have BK517 := n3_
              have HB := n4_
              have BK523 := n5_
              have GW523 := n6_
              have GE523 := n7_
              have NB512_523 := n8_
              have NB523_512 := n9_
              have NB516_523 := n10_
              have NB523_516 := n11_
              have NB517_523 := n12_
              have NB523_517 := n13_
              clear n0_ n1_ n2_ n3_ n4_ n5_ n6_ n7_ n8_ n9_ n10_ n11_ n12_ n13_
              clear hb hbox hg
              refine hK.out _ _ ⟨(blk_cell BK512.out 0).trans rfl, (blk_cell BK512.out 1).trans rfl, HS2_, HS3_⟩ (fun hHeld => ?_)
              clear hK K
              refine norm_ (a' := ?_) ?_ ?_
              rotate_left
              ·
               show Act.put _ (some 10) _ = _
               simp only [Act.put, sa_, sb_, sc_, i64_w, i32_w]
               rfl
              exact norm_ (by simp only [putAll, Act.put, sa_, sb_, sc_]) (hCont (gb523) _ ⟨hHeld, (by (with_reducible repeat (first | apply Kd.R_alloc | apply Kd.R_drewN | apply Kd.R_drew)); exact Kd.R_mono HO_3.out (fun _ hk => ⟨hk.1.1, ⟨hk.1.2.1, ⟨hk.1.2.2, hk.2⟩⟩⟩)), (bk_ BK512), (bk_ BK516), (bk_ BK517), (bk_ BK523), GW523.out, GE523.out, NB512_523.out, NB523_512.out, NB516_523.out, NB523_516.out, NB517_523.out, NB523_517.out, (bl_ HB)⟩)
             ·
              skip
              refine box_step ?hg (N := 10) ?hd (cs := #[.int .i64 0, .int .i64 0]) (t := 30) ?hr ?_; (case hd => rfl); (case hg => rfl); (case hr => first | (go_simp; done) | (go_simp; rfl))
              intro gb523 hg w70 hbox hb
              have HS2_ := (hb.cell (World.block_lt_of_cell? _ _ (hHeld.2.2.1))).trans (hHeld.2.2.1)
              have HS3_ := (hb.cell (World.block_lt_of_cell? _ _ (hHeld.2.2.2))).trans (hHeld.2.2.2)
              have n0_ := Aside0.mk (Kd.R_below (Kd.R_elderB (kr_ HO_3) gb523 (Nat.le_of_eq hg.symm)) hb)
              have n1_ := Aside0.mk (blk_below (g := gb512) (o := .cells #[.int .i64 t509, .int .i64 t510] 30 (0, 0)) (bk_ BK512) hb)
              have n2_ := Aside0.mk (blk_below (g := gb516) (o := .cells #[.int .i64 t513, .int .i64 t514] 30 (0, 0)) (bk_ BK516) hb)
              have n3_ := Aside0.mk (blk_below (g := gb517) (o := .cells #[.int .i64 ((rd_T30 t505 (ji36)).f0), .int .i64 ((rd_T30 t505 (ji36)).f1)] 30 (0, 0)) (bk_ BK517) hb)
              have n4_ := Aside0.mk (below_step (bl_ HB) hb)
              have n5_ := Aside0.mk (hbox)
              have n6_ := Aside0.mk ((by rw [hg]; exact (below_size (bl_ HB)) : w.heap.size ≤ gb523))
              have n7_ := Aside0.mk ((by rw [hg]; exact (below_size (bl_ HB)) : w.heap.size ≤ gb523))
              have n8_ := Aside0.mk ((by rw [hg]; exact Nat.ne_of_lt (blk_lt (g := gb512) (o := .cells #[.int .i64 t509, .int .i64 t510] 30 (0, 0)) (bk_ BK512)) : gb512 ≠ gb523))
              have n9_ := Aside0.mk ((by rw [hg]; exact Nat.ne_of_gt (blk_lt (g := gb512) (o := .cells #[.int .i64 t509, .int .i64 t510] 30 (0, 0)) (bk_ BK512)) : gb523 ≠ gb512))
              have n10_ := Aside0.mk ((by rw [hg]; exact Nat.ne_of_lt (blk_lt (g := gb516) (o := .cells #[.int .i64 t513, .int .i64 t514] 30 (0, 0)) (bk_ BK516)) : gb516 ≠ gb523))
              have n11_ := Aside0.mk ((by rw [hg]; exact Nat.ne_of_gt (blk_lt (g := gb516) (o := .cells #[.int .i64 t513, .int .i64 t514] 30 (0, 0)) (bk_ BK516)) : gb523 ≠ gb516))
              have n12_ := Aside0.mk ((by rw [hg]; exact Nat.ne_of_lt (blk_lt (g := gb517) (o := .cells #[.int .i64 ((rd_T30 t505 (ji36)).f0), .int .i64 ((rd_T30 t505 (ji36)).f1)] 30 (0, 0)) (bk_ BK517)) : gb517 ≠ gb523))
              have n13_ := Aside0.mk ((by rw [hg]; exact Nat.ne_of_gt (blk_lt (g := gb517) (o := .cells #[.int .i64 ((rd_T30 t505 (ji36)).f0), .int .i64 ((rd_T30 t505 (ji36)).f1)] 30 (0, 0)) (bk_ BK517)) : gb523 ≠ gb517))
              clear HO_3
              clear BK512
              clear BK516
              clear BK517
              clear HB
              have HO_3 := n0_
              have BK512 := n1_
              have BK516 := n2_
              have BK517 := n3_
              have HB := n4_
              have BK523 := n5_
              have GW523 := n6_
              have GE523 := n7_
              have NB512_523 := n8_
              have NB523_512 := n9_
              have NB516_523 := n10_
              have NB523_516 := n11_
              have NB517_523 := n12_
              have NB523_517 := n13_
              clear n0_ n1_ n2_ n3_ n4_ n5_ n6_ n7_ n8_ n9_ n10_ n11_ n12_ n13_
              clear hb hbox hg
              refine hK.out _ _ ⟨(blk_cell BK512.out 0).trans rfl, (blk_cell BK512.out 1).trans rfl, HS2_, HS3_⟩ (fun hHeld => ?_)
              clear hK K
              refine norm_ (a' := ?_) ?_ ?_
              rotate_left
              ·
               show Act.put _ (some 10) _ = _
               simp only [Act.put, sa_, sb_, sc_, i64_w, i32_w]
               rfl
              refine one_ (i := 11) (N := some 72) #[true, true, true, true, true, true, true, true, true, true, true, true, false, false, false, true, false, false] rfl rfl (one_of HT_.out (by kernel_rfl)) (by decide) (fun K hK => ?_)
              refine goes_ Tryd.func21 (by kernel_rfl) rfl #[.agg #[.int .i64 (wrap64 (t509 + 1000000)), .int .i64 (wrap64 (t510 + 1000000))], .agg #[.int .i64 ((rd_T30 t505 t506).f0), .int .i64 ((rd_T30 t505 t506).f1)]] (by rfl) rfl rfl (by (try simp only [List.map_toArray, List.map_cons, List.map_nil]); first | done | rfl | (simp only [List.length_drop, List.length_take]; rfl)) ?_
              with_reducible refine (impl_MulRange.calls (wrap64 (t509 + 1000000)) (wrap64 (t510 + 1000000)) ((rd_T30 t505 t506).f0) ((rd_T30 t505 t506).f1) t520 t521 false _ ?side1 A41.out).mono ?_
              (case side1 => first | exact HTab.out | exact Tab.below HTab.out (bl_ HB))
              rintro e w71 ⟨rfl, hb⟩
              have HS2_ := (hb.cell (World.block_lt_of_cell? _ _ (hHeld.2.2.1))).trans (hHeld.2.2.1)
              have HS3_ := (hb.cell (World.block_lt_of_cell? _ _ (hHeld.2.2.2))).trans (hHeld.2.2.2)
              refine ⟨_, rfl, ?_⟩
              have n0_ := Aside0.mk (Kd.R_below (kr_ HO_3) hb)
              have n1_ := Aside0.mk (blk_below (g := gb512) (o := .cells #[.int .i64 t509, .int .i64 t510] 30 (0, 0)) (bk_ BK512) hb)
              have n2_ := Aside0.mk (blk_below (g := gb516) (o := .cells #[.int .i64 t513, .int .i64 t514] 30 (0, 0)) (bk_ BK516) hb)
              have n3_ := Aside0.mk (blk_below (g := gb517) (o := .cells #[.int .i64 ((rd_T30 t505 (ji36)).f0), .int .i64 ((rd_T30 t505 (ji36)).f1)] 30 (0, 0)) (bk_ BK517) hb)
              have n4_ := Aside0.mk (blk_below (g := gb523) (o := .cells #[.int .i64 0, .int .i64 0] 30 (0, 0)) (bk_ BK523) hb)
              have n5_ := Aside0.mk (below_step (bl_ HB) hb)
              clear HO_3
              clear BK512
              clear BK516
              clear BK517
              clear BK523
              clear HB
              have HO_3 := n0_
              have BK512 := n1_
              have BK516 := n2_
              have BK517 := n3_
              have BK523 := n4_
              have HB := n5_
              clear n0_ n1_ n2_ n3_ n4_ n5_
              (try clear hb)
              (try clear hb2)
              (try clear hk)
              (try clear hi)
              refine hK.out _ _ ⟨(blk_cell BK512.out 0).trans rfl, (blk_cell BK512.out 1).trans rfl, HS2_, HS3_⟩ (fun hHeld => ?_)
              clear hK K
              refine norm_ (a' := ?_) ?_ ?_
              rotate_left
              ·
               show Act.put _ (some 72) _ = _
               simp only [Act.put, sa_, sb_, sc_, i64_w, i32_w]
               rfl
              refine pure_ (i := 12) (N := some 60) (v := ?_) (a' := ?_) #[true, true, true, true, true, true, true, true, true, true, true, true, true, false, false, true, false, false] rfl rfl (any_of HT_.out (by kernel_rfl)) (fun _ _ _ h => h) (Or.inl ⟨by rfl, ?_⟩) ?_ ?_
              rotate_left
              ·
               intro w'
               go_simp
               with_reducible rfl
              rotate_left
              ·
               simp only [Act.put, sa_, sb_, sc_, i64_w, i32_w]
               rfl
              refine pure_ (i := 13) (N := some 73) (v := ?_) (a' := ?_) #[true, true, true, true, true, true, true, true, true, true, true, true, true, true, false, true, false, false] rfl rfl (any_of HT_.out (by kernel_rfl)) (fun _ _ _ h => h) (Or.inl ⟨by rfl, ?_⟩) ?_ ?_
              rotate_left
              ·
               intro w'
               go_simp
               with_reducible rfl
              rotate_left
              ·
               simp only [Act.put, sa_, sb_, sc_, i64_w, i32_w]
               rfl
              refine pure_ (i := 14) (N := some 74) (v := ?_) (a' := ?_) #[true, true, true, true, true, true, true, true, true, true, true, true, true, true, true, true, false, false] rfl rfl (any_of HT_.out (by kernel_rfl)) (fun _ _ _ h => h) (Or.inl ⟨by rfl, ?_⟩) ?_ ?_
              rotate_left
              ·
               intro w'
               go_simp
               with_reducible rfl
              rotate_left
              ·
               simp only [Act.put, sa_, sb_, sc_, i64_w, i32_w]
               rfl
              exact norm_ (by simp only [putAll, Act.put, sa_, sb_, sc_]) (hCont (gb523) _ ⟨hHeld, (by (with_reducible repeat (first | apply Kd.R_alloc | apply Kd.R_drewN | apply Kd.R_drew)); exact Kd.R_mono HO_3.out (fun _ hk => ⟨hk.1.1, ⟨hk.1.2.1, ⟨hk.1.2.2, hk.2⟩⟩⟩)), (bk_ BK512), (bk_ BK516), (bk_ BK517), (bk_ BK523), GW523.out, GE523.out, NB512_523.out, NB523_512.out, NB516_523.out, NB523_516.out, NB517_523.out, NB523_517.out, (bl_ HB)⟩)
            rintro gb523 w72 ⟨hS_, h0_, h1_, h2_, h3_, h4_, h5_, h6_, h7_, h8_, h9_, h10_, h11_, h12_, h13_⟩
            have n0_ : Aside0 (Kd.R k30 30 w72 w.heap.size (fun k_ => k_ ≠ gb512 ∧ k_ ≠ gb516 ∧ k_ ≠ gb517 ∧ k_ ≠ gb523) (.slice (some ad518) t505.length co8) t505) := ⟨h0_⟩
            have n1_ : Aside0 (w72.heap[gb512]? = some (.cells #[.int .i64 t509, .int .i64 t510] 30 (0, 0))) := ⟨h1_⟩
            have n2_ : Aside0 (w72.heap[gb516]? = some (.cells #[.int .i64 t513, .int .i64 t514] 30 (0, 0))) := ⟨h2_⟩
            have n3_ : Aside0 (w72.heap[gb517]? = some (.cells #[.int .i64 ((rd_T30 t505 (ji36)).f0), .int .i64 ((rd_T30 t505 (ji36)).f1)] 30 (0, 0))) := ⟨h3_⟩
            have n4_ : Aside0 (w72.heap[gb523]? = some (.cells #[.int .i64 0, .int .i64 0] 30 (0, 0))) := ⟨h4_⟩
            have n5_ : Aside0 (w.heap.size ≤ gb523) := ⟨h5_⟩
            have n6_ : Aside0 (w.heap.size ≤ gb523) := ⟨h6_⟩
            have n7_ : Aside0 (gb512 ≠ gb523) := ⟨h7_⟩
            have n8_ : Aside0 (gb523 ≠ gb512) := ⟨h8_⟩
            have n9_ : Aside0 (gb516 ≠ gb523) := ⟨h9_⟩
            have n10_ : Aside0 (gb523 ≠ gb516) := ⟨h10_⟩
            have n11_ : Aside0 (gb517 ≠ gb523) := ⟨h11_⟩
            have n12_ : Aside0 (gb523 ≠ gb517) := ⟨h12_⟩
            have n13_ : Aside0 (Below w.heap.size w w72) := ⟨h13_⟩
            clear HO_3
            clear BK512
            clear BK516
            clear BK517
            clear HB
            clear h0_ h1_ h2_ h3_ h4_ h5_ h6_ h7_ h8_ h9_ h10_ h11_ h12_ h13_
            have HO_3 := n0_
            have BK512 := n1_
            have BK516 := n2_
            have BK517 := n3_
            have BK523 := n4_
            have GW523 := n5_
            have GE523 := n6_
            have NB512_523 := n7_
            have NB523_512 := n8_
            have NB516_523 := n9_
            have NB523_516 := n10_
            have NB517_523 := n11_
            have NB523_517 := n12_
            have HB := n13_
            clear n0_ n1_ n2_ n3_ n4_ n5_ n6_ n7_ n8_ n9_ n10_ n11_ n12_ n13_
            have hHeld : w72.cell? ⟨gb512, 0, none⟩ = some (.int .i64 t509) ∧ w72.cell? ⟨gb512, 1, none⟩ = some (.int .i64 t510) ∧ w72.cell? (ad518.add ((t506).toNat * 2)) = some (.int .i64 ((rd_T30 t505 t506).f0)) ∧ w72.cell? ⟨(ad518.add ((t506).toNat * 2)).block, (ad518.add ((t506).toNat * 2)).off + 1, none⟩ = some (.int .i64 ((rd_T30 t505 t506).f1)) := hS_
            refine norm_ (a' := ?_) ?_ ?_
            rotate_left
            ·
             simp only [putAll, Act.put, sa_, sb_, sc_]
             rfl
            refine one_ (i := 16) (N := none) #[true, true, true, true, true, true, true, true, true, true, true, true, true, true, true, true, true, false] rfl rfl (one_of HT_.out (by kernel_rfl)) (by decide) (fun K hK => ?_)
            have hs73 : w72.cell? ⟨gb523, 0, none⟩ = some (.int .i64 0) := (blk_cell BK523.out 0).trans rfl
            have hfs73 := blk_frozen BK523.out 0
            have hns73_0 := NB512_523.out
            have hns73_1 := NB516_523.out
            have hns73_2 := NB517_523.out
            have hms73_0 := NB523_512.out
            have hms73_1 := NB523_516.out
            have hms73_2 := NB523_517.out
            have hs74 : w72.cell? ⟨gb523, 1, none⟩ = some (.int .i64 0) := (blk_cell BK523.out 1).trans rfl
            have hfs74 := blk_frozen BK523.out 1
            have hns74_0 := NB512_523.out
            have hns74_1 := NB516_523.out
            have hns74_2 := NB517_523.out
            have hms74_0 := NB523_512.out
            have hms74_1 := NB523_516.out
            have hms74_2 := NB523_517.out
            refine skip_ (w1 := ?_) (by rfl) rfl ?_ ?_
            rotate_left
            ·
             go_simp
             rfl
            refine hK.out _ _ ⟨((cell_far (p := ⟨gb523, _, none⟩) NB512_523.out _).trans (((cell_far (p := ⟨gb523, _, none⟩) NB512_523.out _).trans (hHeld.1)))), ((cell_far (p := ⟨gb523, _, none⟩) NB512_523.out _).trans (((cell_far (p := ⟨gb523, _, none⟩) NB512_523.out _).trans (hHeld.2.1)))), ((cell_far (p := ⟨gb523, _, none⟩) (by first | exact Kd.own_blk (Kd.R_away HO_3.out (fun _ hk => hk.2.2.2)) | (rw [add_block]; exact Kd.own_blk (Kd.R_away HO_3.out (fun _ hk => hk.2.2.2))) | (show (Addr.add _ _).block ≠ _; rw [add_block]; exact Kd.own_blk (Kd.R_away HO_3.out (fun _ hk => hk.2.2.2))) | (dsimp only; exact Kd.own_blk (Kd.R_away HO_3.out (fun _ hk => hk.2.2.2)))) _).trans (((cell_far (p := ⟨gb523, _, none⟩) (by first | exact Kd.own_blk (Kd.R_away HO_3.out (fun _ hk => hk.2.2.2)) | (rw [add_block]; exact Kd.own_blk (Kd.R_away HO_3.out (fun _ hk => hk.2.2.2))) | (show (Addr.add _ _).block ≠ _; rw [add_block]; exact Kd.own_blk (Kd.R_away HO_3.out (fun _ hk => hk.2.2.2))) | (dsimp only; exact Kd.own_blk (Kd.R_away HO_3.out (fun _ hk => hk.2.2.2)))) _).trans (hHeld.2.2.1)))), ((cell_far (p := ⟨gb523, _, none⟩) (by first | exact Kd.own_blk (Kd.R_away HO_3.out (fun _ hk => hk.2.2.2)) | (rw [add_block]; exact Kd.own_blk (Kd.R_away HO_3.out (fun _ hk => hk.2.2.2))) | (show (Addr.add _ _).block ≠ _; rw [add_block]; exact Kd.own_blk (Kd.R_away HO_3.out (fun _ hk => hk.2.2.2))) | (dsimp only; exact Kd.own_blk (Kd.R_away HO_3.out (fun _ hk => hk.2.2.2)))) _).trans (((cell_far (p := ⟨gb523, _, none⟩) (by first | exact Kd.own_blk (Kd.R_away HO_3.out (fun _ hk => hk.2.2.2)) | (rw [add_block]; exact Kd.own_blk (Kd.R_away HO_3.out (fun _ hk => hk.2.2.2))) | (show (Addr.add _ _).block ≠ _; rw [add_block]; exact Kd.own_blk (Kd.R_away HO_3.out (fun _ hk => hk.2.2.2))) | (dsimp only; exact Kd.own_blk (Kd.R_away HO_3.out (fun _ hk => hk.2.2.2)))) _).trans (hHeld.2.2.2))))⟩ (fun hHeld => ?_)
            clear hK K
            refine pure_ (i := 17) (N := some 11) (v := ?_) (a' := ?_) #[true, true, true, true, true, true, true, true, true, true, true, true, true, true, true, true, true, true] rfl rfl (any_of HT_.out (by kernel_rfl)) (fun _ _ _ h => h) (Or.inl ⟨by rfl, ?_⟩) ?_ ?_
            rotate_left
            ·
             intro w'
             go_simp
             with_reducible rfl
            rotate_left
            ·
             simp only [Act.put, sa_, sb_, sc_, i64_w, i32_w]
             rfl
            refine done_ (done_of HT_.out (by kernel_rfl)) ?_
            have hnb75 := NB512_516.out
            have hnc75 := NB516_512.out
            have hnb76 := NB512_523.out
            have hnc76 := NB523_512.out
            have hcz77_0 : w72.cell? ⟨gb512, 0, none⟩ = some (.int .i64 t509) := (blk_cell BK512.out 0).trans rfl
            have hcz77_1 : w72.cell? ⟨gb512, 1, none⟩ = some (.int .i64 t510) := (blk_cell BK512.out 1).trans rfl
            have hfz77_0 := blk_frozen BK512.out 0
            have hfz77_1 := blk_frozen BK512.out 1
            try go_wp2
            go_ret
            exact ⟨by first | rfl | (simp [errW_none, errW_some] <;> rfl) | (simp only [← hji36]; first | rfl | (simp [errW_none, errW_some] <;> rfl)) | (simp [*, errW_none, errW_some] <;> rfl), by repeat (first | (with_reducible first | exact HB.out | apply below_alloc | apply pw_below_drewN | apply below_drew1 | refine below_set ?_ GE512.out | refine below_set ?_ GE516.out | refine below_set ?_ GE517.out | refine below_set ?_ GE523.out) | exact HB.out)⟩
          ·
           rw [if_neg c42] at H
           have c42b0 : decide (t509 ≤ t510) = false := decide_eq_false c42
           clear c42
           obtain rfl := Option.some.inj H
           try go_wp2_with (first | ((with_reducible refine gate_dst (N := 9) rfl ?_); refine box_event ?hg (N := 9) ?hd (cs := #[.int .i64 0, .int .i64 0]) (t := 30) ?hr ?_; (case hd => rfl); (case hg => rfl); (case hr => first | (go_simp; done) | (go_simp; rfl)); intro gb517 hg w78 hbox hb; have n0_ := Aside0.mk (Kd.R_below (Kd.R_elderB (kr_ HO_3) gb517 (Nat.le_of_eq hg.symm)) hb); have n1_ := Aside0.mk (blk_below (g := gb512) (o := .cells #[.int .i64 t509, .int .i64 t510] 30 (0, 0)) (bk_ BK512) hb); have n2_ := Aside0.mk (blk_below (g := gb516) (o := .cells #[.int .i64 t513, .int .i64 t514] 30 (0, 0)) (bk_ BK516) hb); have n3_ := Aside0.mk (below_step (bl_ HB) hb); have n4_ := Aside0.mk (hbox); have n5_ := Aside0.mk ((by rw [hg]; exact (below_size (bl_ HB)) : w.heap.size ≤ gb517)); have n6_ := Aside0.mk ((by rw [hg]; exact (below_size (bl_ HB)) : w.heap.size ≤ gb517)); have n7_ := Aside0.mk ((by rw [hg]; exact Nat.ne_of_lt (blk_lt (g := gb512) (o := .cells #[.int .i64 t509, .int .i64 t510] 30 (0, 0)) (bk_ BK512)) : gb512 ≠ gb517)); have n8_ := Aside0.mk ((by rw [hg]; exact Nat.ne_of_gt (blk_lt (g := gb512) (o := .cells #[.int .i64 t509, .int .i64 t510] 30 (0, 0)) (bk_ BK512)) : gb517 ≠ gb512)); have n9_ := Aside0.mk ((by rw [hg]; exact Nat.ne_of_lt (blk_lt (g := gb516) (o := .cells #[.int .i64 t513, .int .i64 t514] 30 (0, 0)) (bk_ BK516)) : gb516 ≠ gb517)); have n10_ := Aside0.mk ((by rw [hg]; exact Nat.ne_of_gt (blk_lt (g := gb516) (o := .cells #[.int .i64 t513, .int .i64 t514] 30 (0, 0)) (bk_ BK516)) : gb517 ≠ gb516)); clear HO_3; clear BK512; clear BK516; clear HB; have HO_3 := n0_; have BK512 := n1_; have BK516 := n2_; have HB := n3_; have BK517 := n4_; have GW517 := n5_; have GE517 := n6_; have NB512_517 := n7_; have NB517_512 := n8_; have NB516_517 := n9_; have NB517_516 := n10_; clear n0_ n1_ n2_ n3_ n4_ n5_ n6_ n7_ n8_ n9_ n10_; clear hb hbox hg; have hnb79 := NB517_512.out; have hnc79 := NB512_517.out; have hnb80 := NB517_516.out; have hnc80 := NB516_517.out; have hcz81_0 : w78.cell? ⟨gb517, 0, none⟩ = some (.int .i64 0) := (blk_cell BK517.out 0).trans rfl; have hcz81_1 : w78.cell? ⟨gb517, 1, none⟩ = some (.int .i64 0) := (blk_cell BK517.out 1).trans rfl; have hfz81_0 := blk_frozen BK517.out 0; have hfz81_1 := blk_frozen BK517.out 1; have p518 : 0 ≤ ((ji36) : Int) := of_decide_eq_true (by first | (with_reducible assumption) | assumption); have q518 : (ji36) < (t505.length : Int) := of_decide_eq_true (by first | (with_reducible assumption) | assumption); obtain ⟨ad518, e518, hx518_0, hx518_1⟩ := at_T30 (Kd.R_reads' HO_3.out).2.2 (ji36) p518 q518; cases e518; have hn518_0 : ad518.block ≠ gb517 := Kd.own_blk ((by first | exact Kd.R_ne HO_3.out BK517.out (by decide) | exact Kd.R_away HO_3.out (fun _ hk => by first | exact hk.2 | exact hk.1.2 | exact hk.2.1 | exact hk.2.2 | exact hk.1.1.2 | exact hk.2.2.1 | exact hk.2.2.2 | exact hk.1))); have hn518_1 : ad518.block ≠ gb517 := Kd.own_blk ((by first | exact Kd.R_ne HO_3.out BK517.out (by decide) | exact Kd.R_away HO_3.out (fun _ hk => by first | exact hk.2 | exact hk.1.2 | exact hk.2.1 | exact hk.2.2 | exact hk.1.1.2 | exact hk.2.2.1 | exact hk.2.2.2 | exact hk.1))); replace hx518_0 := (cell_far (p := ⟨gb517, 0, none⟩) (by first | (rw [add_block]; exact hn518_0) | (show (Addr.add _ _).block ≠ _; rw [add_block]; exact hn518_0) | exact hn518_0) (.int .i64 1000000)).trans hx518_0; replace hx518_1 := (cell_far (p := ⟨gb517, 0, none⟩) (by first | (rw [add_block]; exact hn518_0) | (show (Addr.add _ _).block ≠ _; rw [add_block]; exact hn518_0) | exact hn518_0) (.int .i64 1000000)).trans hx518_1; replace hx518_0 := (cell_far (p := ⟨gb517, 1, none⟩) (by first | (rw [add_block]; exact hn518_1) | (show (Addr.add _ _).block ≠ _; rw [add_block]; exact hn518_1) | exact hn518_1) (.int .i64 1000000)).trans hx518_0; replace hx518_1 := (cell_far (p := ⟨gb517, 1, none⟩) (by first | (rw [add_block]; exact hn518_1) | (show (Addr.add _ _).block ≠ _; rw [add_block]; exact hn518_1) | exact hn518_1) (.int .i64 1000000)).trans hx518_1; clear hn518_0; clear hn518_1; replace p518 := eq_true p518; replace q518 := eq_true q518))
           have n0_ : Aside0 (Kd.R k30 30 ((((w78.setCell ⟨gb517, 0, none⟩ (.int .i64 1000000)).setCell ⟨gb517, 1, none⟩ (.int .i64 1000000)).setCell ⟨gb517, 0, none⟩ (.int .i64 ((rd_T30 t505 (ji36)).f0))).setCell ⟨gb517, 1, none⟩ (.int .i64 ((rd_T30 t505 (ji36)).f1))) w.heap.size (fun k_ => k_ ≠ gb512 ∧ k_ ≠ gb516 ∧ k_ ≠ gb517) (.slice (some ad518) t505.length co8) t505) := ⟨by (with_reducible repeat (first | apply Kd.R_alloc | apply Kd.R_drewN | apply Kd.R_drew)); exact Kd.R_mono (Kd.R_far (p := ⟨gb517, 1, none⟩) (Kd.R_far (p := ⟨gb517, 0, none⟩) (Kd.R_far (p := ⟨gb517, 1, none⟩) (Kd.R_far (p := ⟨gb517, 0, none⟩) (Kd.R_mono HO_3.out (fun k_ hk => (⟨hk, hk.2⟩ : _ ∧ k_ ≠ gb517))) (fun _ hk => hk.2) (.int .i64 1000000)) (fun _ hk => hk.2) (.int .i64 1000000)) (fun _ hk => hk.2) (.int .i64 ((rd_T30 t505 (ji36)).f0))) (fun _ hk => hk.2) (.int .i64 ((rd_T30 t505 (ji36)).f1))) (fun _ hk => ⟨hk.1.1.1, ⟨hk.1.1.2, hk.1.2⟩⟩)⟩
           have n1_ : Aside0 (((((w78.setCell ⟨gb517, 0, none⟩ (.int .i64 1000000)).setCell ⟨gb517, 1, none⟩ (.int .i64 1000000)).setCell ⟨gb517, 0, none⟩ (.int .i64 ((rd_T30 t505 (ji36)).f0))).setCell ⟨gb517, 1, none⟩ (.int .i64 ((rd_T30 t505 (ji36)).f1))).heap[gb512]? = some (.cells #[.int .i64 t509, .int .i64 t510] 30 (0, 0))) := ⟨by (with_reducible repeat (first | refine blk_drewN ?_ _ | refine blk_drew ?_ | refine blk_alloc ?_ _)); refine blk_far ?_ NB512_517.out _; (with_reducible repeat (first | refine blk_drewN ?_ _ | refine blk_drew ?_ | refine blk_alloc ?_ _)); refine blk_far ?_ NB512_517.out _; (with_reducible repeat (first | refine blk_drewN ?_ _ | refine blk_drew ?_ | refine blk_alloc ?_ _)); refine blk_far ?_ NB512_517.out _; (with_reducible repeat (first | refine blk_drewN ?_ _ | refine blk_drew ?_ | refine blk_alloc ?_ _)); refine blk_far ?_ NB512_517.out _; (with_reducible repeat (first | refine blk_drewN ?_ _ | refine blk_drew ?_ | refine blk_alloc ?_ _)); exact BK512.out⟩
           have n2_ : Aside0 (((((w78.setCell ⟨gb517, 0, none⟩ (.int .i64 1000000)).setCell ⟨gb517, 1, none⟩ (.int .i64 1000000)).setCell ⟨gb517, 0, none⟩ (.int .i64 ((rd_T30 t505 (ji36)).f0))).setCell ⟨gb517, 1, none⟩ (.int .i64 ((rd_T30 t505 (ji36)).f1))).heap[gb516]? = some (.cells #[.int .i64 t513, .int .i64 t514] 30 (0, 0))) := ⟨by (with_reducible repeat (first | refine blk_drewN ?_ _ | refine blk_drew ?_ | refine blk_alloc ?_ _)); refine blk_far ?_ NB516_517.out _; (with_reducible repeat (first | refine blk_drewN ?_ _ | refine blk_drew ?_ | refine blk_alloc ?_ _)); refine blk_far ?_ NB516_517.out _; (with_reducible repeat (first | refine blk_drewN ?_ _ | refine blk_drew ?_ | refine blk_alloc ?_ _)); refine blk_far ?_ NB516_517.out _; (with_reducible repeat (first | refine blk_drewN ?_ _ | refine blk_drew ?_ | refine blk_alloc ?_ _)); refine blk_far ?_ NB516_517.out _; (with_reducible repeat (first | refine blk_drewN ?_ _ | refine blk_drew ?_ | refine blk_alloc ?_ _)); exact BK516.out⟩
           have n3_ : Aside0 (((((w78.setCell ⟨gb517, 0, none⟩ (.int .i64 1000000)).setCell ⟨gb517, 1, none⟩ (.int .i64 1000000)).setCell ⟨gb517, 0, none⟩ (.int .i64 ((rd_T30 t505 (ji36)).f0))).setCell ⟨gb517, 1, none⟩ (.int .i64 ((rd_T30 t505 (ji36)).f1))).heap[gb517]? = some (.cells #[.int .i64 ((rd_T30 t505 (ji36)).f0), .int .i64 ((rd_T30 t505 (ji36)).f1)] 30 (0, 0))) := ⟨by (with_reducible repeat (first | refine blk_drewN ?_ _ | refine blk_drew ?_ | refine blk_alloc ?_ _)); refine blk_put (cs := #[.int .i64 ((rd_T30 t505 (ji36)).f0), .int .i64 1000000]) ?_ 1 _ rfl; (with_reducible repeat (first | refine blk_drewN ?_ _ | refine blk_drew ?_ | refine blk_alloc ?_ _)); refine blk_put (cs := #[.int .i64 1000000, .int .i64 1000000]) ?_ 0 _ rfl; (with_reducible repeat (first | refine blk_drewN ?_ _ | refine blk_drew ?_ | refine blk_alloc ?_ _)); refine blk_put (cs := #[.int .i64 1000000, .int .i64 0]) ?_ 1 _ rfl; (with_reducible repeat (first | refine blk_drewN ?_ _ | refine blk_drew ?_ | refine blk_alloc ?_ _)); refine blk_put (cs := #[.int .i64 0, .int .i64 0]) ?_ 0 _ rfl; (with_reducible repeat (first | refine blk_drewN ?_ _ | refine blk_drew ?_ | refine blk_alloc ?_ _)); exact BK517.out⟩
           have n4_ : Aside0 (Below w.heap.size w ((((w78.setCell ⟨gb517, 0, none⟩ (.int .i64 1000000)).setCell ⟨gb517, 1, none⟩ (.int .i64 1000000)).setCell ⟨gb517, 0, none⟩ (.int .i64 ((rd_T30 t505 (ji36)).f0))).setCell ⟨gb517, 1, none⟩ (.int .i64 ((rd_T30 t505 (ji36)).f1)))) := ⟨by repeat (first | (with_reducible first | exact HB.out | apply below_alloc | apply pw_below_drewN | apply below_drew1 | refine below_set ?_ GE512.out | refine below_set ?_ GE516.out | refine below_set ?_ GE517.out) | exact HB.out)⟩
           (try clear HO_3)
           (try clear BK512)
           (try clear BK516)
           (try clear BK517)
           (try clear HB)
           generalize ((((w78.setCell ⟨gb517, 0, none⟩ (.int .i64 1000000)).setCell ⟨gb517, 1, none⟩ (.int .i64 1000000)).setCell ⟨gb517, 0, none⟩ (.int .i64 ((rd_T30 t505 (ji36)).f0))).setCell ⟨gb517, 1, none⟩ (.int .i64 ((rd_T30 t505 (ji36)).f1))) = w82 at n0_ n1_ n2_ n3_ n4_ ⊢
           have HO_3 := n0_
           have BK512 := n1_
           have BK516 := n2_
           have BK517 := n3_
           have HB := n4_
           clear n0_ n1_ n2_ n3_ n4_
           have n0_ := Aside0.mk (Kd.R_drew HO_3.out)
           have n1_ := Aside0.mk (blk_drew BK512.out)
           have n2_ := Aside0.mk (blk_drew BK516.out)
           have n3_ := Aside0.mk (blk_drew BK517.out)
           have n4_ := Aside0.mk (below_drew1 HB.out)
           clear HO_3
           clear BK512
           clear BK516
           clear BK517
           clear HB
           have HO_3 := n0_
           have BK512 := n1_
           have BK516 := n2_
           have BK517 := n3_
           have HB := n4_
           clear n0_ n1_ n2_ n3_ n4_
           have p519 : 0 ≤ (t506 : Int) := of_decide_eq_true (by first | (with_reducible assumption) | assumption)
           have q519 : t506 < (t505.length : Int) := of_decide_eq_true (by first | (with_reducible assumption) | assumption)
           obtain ⟨ad519, e519, hx519_0, hx519_1⟩ := at_T30 (Kd.R_reads' HO_3.out).2.2 t506 p519 q519
           obtain rfl : ad518 = ad519 := (by injection e519)
           replace p519 := eq_true p519
           replace q519 := eq_true q519
           refine start_ (n := 18) (S := fun w' => w'.cell? ⟨gb512, 0, none⟩ = some (.int .i64 t509) ∧ w'.cell? ⟨gb512, 1, none⟩ = some (.int .i64 t510) ∧ w'.cell? (ad518.add ((t506).toNat * 2)) = some (.int .i64 ((rd_T30 t505 t506).f0)) ∧ w'.cell? ⟨(ad518.add ((t506).toNat * 2)).block, (ad518.add ((t506).toNat * 2)).off + 1, none⟩ = some (.int .i64 ((rd_T30 t505 t506).f1))) (ds := []) #[false, false, false, false, false, false, false, false, false, false, false, false, false, false, false, false, false, false] (by kernel_rfl) rfl rfl ⟨(blk_cell BK512.out 0).trans rfl, (blk_cell BK512.out 1).trans rfl, hx519_0, hx519_1⟩ (fun hHeld => ?_); refine with_tabW laws_FnForwardOf.tab11 laws_FnForwardOf.bits11 (fun HT_ HW_ => ?_)
           generalize w82.drew = w83 at HO_3 BK512 BK516 BK517 HB hx519_0 hx519_1 hHeld ⊢
           refine pure_ (i := 0) (N := some 61) (v := ?_) (a' := ?_) #[true, false, false, false, false, false, false, false, false, false, false, false, false, false, false, false, false, false] rfl rfl (any_of HT_.out (by kernel_rfl)) (fun _ _ _ h => h) (Or.inl ⟨by rfl, ?_⟩) ?_ ?_
           rotate_left
           ·
            intro w'
            go_simp
            with_reducible rfl
           rotate_left
           ·
            simp only [Act.put, sa_, sb_, sc_, i64_w, i32_w]
            rfl
           refine pure_ (i := 3) (N := some 64) (v := ?_) (a' := ?_) #[true, false, false, true, false, false, false, false, false, false, false, false, false, false, false, false, false, false] rfl rfl (any_of HT_.out (by kernel_rfl)) (fun _ _ _ h => h) (Or.inl ⟨by rfl, ?_⟩) ?_ ?_
           rotate_left
           ·
            intro w'
            go_simp
            with_reducible rfl
           rotate_left
           ·
            simp only [Act.put, sa_, sb_, sc_, i64_w, i32_w]
            rfl
           refine pure_ (i := 7) (N := some 68) (v := ?_) (a' := ?_) #[true, false, false, true, false, false, false, true, false, false, false, false, false, false, false, false, false, false] rfl rfl (any_of HT_.out (by kernel_rfl)) (fun _ _ _ h => h) (Or.inl ⟨by rfl, ?_⟩) ?_ ?_
           rotate_left
           ·
            intro w'
            go_simp
            with_reducible rfl
           rotate_left
           ·
            simp only [Act.put, sa_, sb_, sc_, i64_w, i32_w]
            rfl
           refine pure_ (i := 8) (N := some 69) (v := ?_) (a' := ?_) #[true, false, false, true, false, false, false, true, true, false, false, false, false, false, false, false, false, false] rfl rfl (any_of HT_.out (by kernel_rfl)) (fun _ _ _ h => h) (Or.inl ⟨by rfl, ?_⟩) ?_ ?_
           rotate_left
           ·
            intro w'
            go_simp
            with_reducible rfl
           rotate_left
           ·
            simp only [Act.put, sa_, sb_, sc_, i64_w, i32_w]
            rfl
           refine pure_ (i := 9) (N := some 70) (v := ?_) (a' := ?_) #[true, false, false, true, false, false, false, true, true, true, false, false, false, false, false, false, false, false] rfl rfl (any_of HT_.out (by kernel_rfl)) (fun _ _ _ h => h) (Or.inl ⟨by rfl, ?_⟩) ?_ ?_
           rotate_left
           ·
            intro w'
            go_simp
            with_reducible rfl
           rotate_left
           ·
            simp only [Act.put, sa_, sb_, sc_, i64_w, i32_w]
            rfl
           refine take_ (i := 1) (N := some 62) (v := ?_) (a' := ?_) #[true, true, false, true, false, false, false, true, true, true, false, false, false, false, false, false, false, false] rfl rfl (take_ofW HT_.out HW_.out (by kernel_rfl)) (fun _ _ _ h => h) (Or.inl ⟨by rfl, ?_⟩) hHeld ?_ ?_
           rotate_left
           ·
            rintro w' ⟨s0, s1, s2, s3⟩
            go_simp
            with_reducible rfl
           rotate_left
           ·
            simp only [Act.put, sa_, sb_, sc_, i64_w, i32_w]
            rfl
           refine pure_ (i := 2) (N := some 63) (v := ?_) (a' := ?_) #[true, true, true, true, false, false, false, true, true, true, false, false, false, false, false, false, false, false] rfl rfl (any_of HT_.out (by kernel_rfl)) (fun _ _ _ h => h) (Or.inl ⟨by rfl, ?_⟩) ?_ ?_
           rotate_left
           ·
            intro w'
            go_simp
            with_reducible rfl
           rotate_left
           ·
            simp only [Act.put, sa_, sb_, sc_, i64_w, i32_w]
            rfl
           refine take_ (i := 4) (N := some 65) (v := ?_) (a' := ?_) #[true, true, true, true, true, false, false, true, true, true, false, false, false, false, false, false, false, false] rfl rfl (take_ofW HT_.out HW_.out (by kernel_rfl)) (fun _ _ _ h => h) (Or.inl ⟨by rfl, ?_⟩) hHeld ?_ ?_
           rotate_left
           ·
            rintro w' ⟨s0, s1, s2, s3⟩
            go_simp
            with_reducible rfl
           rotate_left
           ·
            simp only [Act.put, sa_, sb_, sc_, i64_w, i32_w]
            rfl
           refine pure_ (i := 5) (N := some 66) (v := ?_) (a' := ?_) #[true, true, true, true, true, true, false, true, true, true, false, false, false, false, false, false, false, false] rfl rfl (any_of HT_.out (by kernel_rfl)) (fun _ _ _ h => h) (Or.inl ⟨by rfl, ?_⟩) ?_ ?_
           rotate_left
           ·
            intro w'
            go_simp
            with_reducible rfl
           rotate_left
           ·
            simp only [Act.put, sa_, sb_, sc_, i64_w, i32_w]
            rfl
           refine pure_ (i := 6) (N := some 67) (v := ?_) (a' := ?_) #[true, true, true, true, true, true, true, true, true, true, false, false, false, false, false, false, false, false] rfl rfl (any_of HT_.out (by kernel_rfl)) (fun _ _ _ h => h) (Or.inl ⟨by rfl, ?_⟩) ?_ ?_
           rotate_left
           ·
            intro w'
            go_simp
            with_reducible rfl
           rotate_left
           ·
            simp only [Act.put, sa_, sb_, sc_, i64_w, i32_w]
            rfl
           refine take_ (i := 10) (N := some 71) (v := ?_) (a' := ?_) #[true, true, true, true, true, true, true, true, true, true, true, false, false, false, false, false, false, false] rfl rfl (take_ofW HT_.out HW_.out (by kernel_rfl)) (fun _ _ _ h => h) (Or.inl ⟨by rfl, ?_⟩) hHeld ?_ ?_
           rotate_left
           ·
            rintro w' ⟨s0, s1, s2, s3⟩
            go_simp
            with_reducible rfl
           rotate_left
           ·
            simp only [Act.put, sa_, sb_, sc_, i64_w, i32_w]
            rfl
           refine join_ (σ := Nat) 2 #[true, true, true, true, true, true, true, true, true, true, true, true, true, true, true, true, false, false] (fun s_ => [(72, .tuple #[.agg #[.int .i64 t520, .int .i64 t521], .bool t522]), (10, .pointer (some ⟨s_, 0, none⟩)), (60, .tuple #[.agg #[.int .i64 t520, .int .i64 t521], .bool t522]), (73, .agg #[.int .i64 t520, .int .i64 t521]), (74, .bool t522)]) (fun s_ w' => (w'.cell? ⟨gb512, 0, none⟩ = some (.int .i64 t509) ∧ w'.cell? ⟨gb512, 1, none⟩ = some (.int .i64 t510) ∧ w'.cell? (ad518.add ((t506).toNat * 2)) = some (.int .i64 ((rd_T30 t505 t506).f0)) ∧ w'.cell? ⟨(ad518.add ((t506).toNat * 2)).block, (ad518.add ((t506).toNat * 2)).off + 1, none⟩ = some (.int .i64 ((rd_T30 t505 t506).f1))) ∧ (Kd.R k30 30 w' w.heap.size (fun k_ => k_ ≠ gb512 ∧ k_ ≠ gb516 ∧ k_ ≠ gb517 ∧ k_ ≠ s_) (.slice (some ad518) t505.length co8) t505) ∧ (w'.heap[gb512]? = some (.cells #[.int .i64 t509, .int .i64 t510] 30 (0, 0))) ∧ (w'.heap[gb516]? = some (.cells #[.int .i64 t513, .int .i64 t514] 30 (0, 0))) ∧ (w'.heap[gb517]? = some (.cells #[.int .i64 ((rd_T30 t505 (ji36)).f0), .int .i64 ((rd_T30 t505 (ji36)).f1)] 30 (0, 0))) ∧ (w'.heap[s_]? = some (.cells #[.int .i64 0, .int .i64 0] 30 (0, 0))) ∧ (w.heap.size ≤ s_) ∧ (w.heap.size ≤ s_) ∧ (gb512 ≠ s_) ∧ (s_ ≠ gb512) ∧ (gb516 ≠ s_) ∧ (s_ ≠ gb516) ∧ (gb517 ≠ s_) ∧ (s_ ≠ gb517) ∧ (Below w.heap.size w w')) ?_ ?_
           rotate_left
           ·
            intro hCont
            refine two_ (i := 11) (j := 15) (Ni := some 72) (Nj := some 10) #[true, true, true, true, true, true, true, true, true, true, true, true, false, false, false, false, false, false] #[true, true, true, true, true, true, true, true, true, true, true, false, false, false, false, true, false, false] rfl rfl rfl rfl (two_of HT_.out (by kernel_rfl)) (by decide) (by decide) (fun K hK => ?_) (fun K hK => ?_)
            ·
             skip
             refine goes_ Tryd.func21 (by kernel_rfl) rfl #[.agg #[.int .i64 (wrap64 (t509 + 1000000)), .int .i64 (wrap64 (t510 + 1000000))], .agg #[.int .i64 ((rd_T30 t505 t506).f0), .int .i64 ((rd_T30 t505 t506).f1)]] (by rfl) rfl rfl (by (try simp only [List.map_toArray, List.map_cons, List.map_nil]); first | done | rfl | (simp only [List.length_drop, List.length_take]; rfl)) ?_
             with_reducible refine (impl_MulRange.calls (wrap64 (t509 + 1000000)) (wrap64 (t510 + 1000000)) ((rd_T30 t505 t506).f0) ((rd_T30 t505 t506).f1) t520 t521 t522 _ ?side1 A41.out).mono ?_
             (case side1 => first | exact HTab.out | exact Tab.below HTab.out (bl_ HB))
             rintro e w84 ⟨rfl, hb⟩
             have HS2_ := (hb.cell (World.block_lt_of_cell? _ _ (hHeld.2.2.1))).trans (hHeld.2.2.1)
             have HS3_ := (hb.cell (World.block_lt_of_cell? _ _ (hHeld.2.2.2))).trans (hHeld.2.2.2)
             refine ⟨_, rfl, ?_⟩
             have n0_ := Aside0.mk (Kd.R_below (kr_ HO_3) hb)
             have n1_ := Aside0.mk (blk_below (g := gb512) (o := .cells #[.int .i64 t509, .int .i64 t510] 30 (0, 0)) (bk_ BK512) hb)
             have n2_ := Aside0.mk (blk_below (g := gb516) (o := .cells #[.int .i64 t513, .int .i64 t514] 30 (0, 0)) (bk_ BK516) hb)
             have n3_ := Aside0.mk (blk_below (g := gb517) (o := .cells #[.int .i64 ((rd_T30 t505 (ji36)).f0), .int .i64 ((rd_T30 t505 (ji36)).f1)] 30 (0, 0)) (bk_ BK517) hb)
             have n4_ := Aside0.mk (below_step (bl_ HB) hb)
             clear HO_3
             clear BK512
             clear BK516
             clear BK517
             clear HB
             have HO_3 := n0_
             have BK512 := n1_
             have BK516 := n2_
             have BK517 := n3_
             have HB := n4_
             clear n0_ n1_ n2_ n3_ n4_
             (try clear hb)
             (try clear hb2)
             (try clear hk)
             (try clear hi)
             refine hK.out _ _ ⟨(blk_cell BK512.out 0).trans rfl, (blk_cell BK512.out 1).trans rfl, HS2_, HS3_⟩ (fun hHeld => ?_)
             clear hK K
             refine norm_ (a' := ?_) ?_ ?_
             rotate_left
             ·
              show Act.put _ (some 72) _ = _
              simp only [Act.put, sa_, sb_, sc_, i64_w, i32_w]
              rfl
             refine pure_ (i := 12) (N := some 60) (v := ?_) (a' := ?_) #[true, true, true, true, true, true, true, true, true, true, true, true, true, false, false, false, false, false] rfl rfl (any_of HT_.out (by kernel_rfl)) (fun _ _ _ h => h) (Or.inl ⟨by rfl, ?_⟩) ?_ ?_
             rotate_left
             ·
              intro w'
              go_simp
              with_reducible rfl
             rotate_left
             ·
              simp only [Act.put, sa_, sb_, sc_, i64_w, i32_w]
              rfl
             refine pure_ (i := 13) (N := some 73) (v := ?_) (a' := ?_) #[true, true, true, true, true, true, true, true, true, true, true, true, true, true, false, false, false, false] rfl rfl (any_of HT_.out (by kernel_rfl)) (fun _ _ _ h => h) (Or.inl ⟨by rfl, ?_⟩) ?_ ?_
             rotate_left
             ·
              intro w'
              go_simp
              with_reducible rfl
             rotate_left
             ·
              simp only [Act.put, sa_, sb_, sc_, i64_w, i32_w]
              rfl
             refine pure_ (i := 14) (N := some 74) (v := ?_) (a' := ?_) #[true, true, true, true, true, true, true, true, true, true, true, true, true, true, true, false, false, false] rfl rfl (any_of HT_.out (by kernel_rfl)) (fun _ _ _ h => h) (Or.inl ⟨by rfl, ?_⟩) ?_ ?_
             rotate_left
             ·
              intro w'
              go_simp
              with_reducible rfl
             rotate_left
             ·
              simp only [Act.put, sa_, sb_, sc_, i64_w, i32_w]
              rfl
             refine one_ (i := 15) (N := some 10) #[true, true, true, true, true, true, true, true, true, true, true, true, true, true, true, true, false, false] rfl rfl (one_of HT_.out (by kernel_rfl)) (by decide) (fun K hK => ?_)
             refine box_step ?hg (N := 10) ?hd (cs := #[.int .i64 0, .int .i64 0]) (t := 30) ?hr ?_; (case hd => rfl); (case hg => rfl); (case hr => first | (go_simp; done) | (go_simp; rfl))
             intro gb523 hg w85 hbox hb
             have HS2_ := (hb.cell (World.block_lt_of_cell? _ _ (hHeld.2.2.1))).trans (hHeld.2.2.1)
             have HS3_ := (hb.cell (World.block_lt_of_cell? _ _ (hHeld.2.2.2))).trans (hHeld.2.2.2)
             have n0_ := Aside0.mk (Kd.R_below (Kd.R_elderB (kr_ HO_3) gb523 (Nat.le_of_eq hg.symm)) hb)
             have n1_ := Aside0.mk (blk_below (g := gb512) (o := .cells #[.int .i64 t509, .int .i64 t510] 30 (0, 0)) (bk_ BK512) hb)
             have n2_ := Aside0.mk (blk_below (g := gb516) (o := .cells #[.int .i64 t513, .int .i64 t514] 30 (0, 0)) (bk_ BK516) hb)
             have n3_ := Aside0.mk (blk_below (g := gb517) (o := .cells #[.int .i64 ((rd_T30 t505 (ji36)).f0), .int .i64 ((rd_T30 t505 (ji36)).f1)] 30 (0, 0)) (bk_ BK517) hb)
             have n4_ := Aside0.mk (below_step (bl_ HB) hb)
             have n5_ := Aside0.mk (hbox)
             have n6_ := Aside0.mk ((by rw [hg]; exact (below_size (bl_ HB)) : w.heap.size ≤ gb523))
             have n7_ := Aside0.mk ((by rw [hg]; exact (below_size (bl_ HB)) : w.heap.size ≤ gb523))
             have n8_ := Aside0.mk ((by rw [hg]; exact Nat.ne_of_lt (blk_lt (g := gb512) (o := .cells #[.int .i64 t509, .int .i64 t510] 30 (0, 0)) (bk_ BK512)) : gb512 ≠ gb523))
             have n9_ := Aside0.mk ((by rw [hg]; exact Nat.ne_of_gt (blk_lt (g := gb512) (o := .cells #[.int .i64 t509, .int .i64 t510] 30 (0, 0)) (bk_ BK512)) : gb523 ≠ gb512))
             have n10_ := Aside0.mk ((by rw [hg]; exact Nat.ne_of_lt (blk_lt (g := gb516) (o := .cells #[.int .i64 t513, .int .i64 t514] 30 (0, 0)) (bk_ BK516)) : gb516 ≠ gb523))
             have n11_ := Aside0.mk ((by rw [hg]; exact Nat.ne_of_gt (blk_lt (g := gb516) (o := .cells #[.int .i64 t513, .int .i64 t514] 30 (0, 0)) (bk_ BK516)) : gb523 ≠ gb516))
             have n12_ := Aside0.mk ((by rw [hg]; exact Nat.ne_of_lt (blk_lt (g := gb517) (o := .cells #[.int .i64 ((rd_T30 t505 (ji36)).f0), .int .i64 ((rd_T30 t505 (ji36)).f1)] 30 (0, 0)) (bk_ BK517)) : gb517 ≠ gb523))
             have n13_ := Aside0.mk ((by rw [hg]; exact Nat.ne_of_gt (blk_lt (g := gb517) (o := .cells #[.int .i64 ((rd_T30 t505 (ji36)).f0), .int .i64 ((rd_T30 t505 (ji36)).f1)] 30 (0, 0)) (bk_ BK517)) : gb523 ≠ gb517))
             clear HO_3
             clear BK512
             clear BK516
             clear BK517
             clear HB
             have HO_3 := n0_
             have BK512 := n1_
             have BK516 := n2_
             have BK517 := n3_
             have HB := n4_
             have BK523 := n5_
             have GW523 := n6_
             have GE523 := n7_
             have NB512_523 := n8_
             have NB523_512 := n9_
             have NB516_523 := n10_
             have NB523_516 := n11_
             have NB517_523 := n12_
             have NB523_517 := n13_
             clear n0_ n1_ n2_ n3_ n4_ n5_ n6_ n7_ n8_ n9_ n10_ n11_ n12_ n13_
             clear hb hbox hg
             refine hK.out _ _ ⟨(blk_cell BK512.out 0).trans rfl, (blk_cell BK512.out 1).trans rfl, HS2_, HS3_⟩ (fun hHeld => ?_)
             clear hK K
             refine norm_ (a' := ?_) ?_ ?_
             rotate_left
             ·
              show Act.put _ (some 10) _ = _
              simp only [Act.put, sa_, sb_, sc_, i64_w, i32_w]
              rfl
             exact norm_ (by simp only [putAll, Act.put, sa_, sb_, sc_]) (hCont (gb523) _ ⟨hHeld, (by (with_reducible repeat (first | apply Kd.R_alloc | apply Kd.R_drewN | apply Kd.R_drew)); exact Kd.R_mono HO_3.out (fun _ hk => ⟨hk.1.1, ⟨hk.1.2.1, ⟨hk.1.2.2, hk.2⟩⟩⟩)), (bk_ BK512), (bk_ BK516), (bk_ BK517), (bk_ BK523), GW523.out, GE523.out, NB512_523.out, NB523_512.out, NB516_523.out, NB523_516.out, NB517_523.out, NB523_517.out, (bl_ HB)⟩)
            ·
             skip
             refine box_step ?hg (N := 10) ?hd (cs := #[.int .i64 0, .int .i64 0]) (t := 30) ?hr ?_; (case hd => rfl); (case hg => rfl); (case hr => first | (go_simp; done) | (go_simp; rfl))
             intro gb523 hg w84 hbox hb
             have HS2_ := (hb.cell (World.block_lt_of_cell? _ _ (hHeld.2.2.1))).trans (hHeld.2.2.1)
             have HS3_ := (hb.cell (World.block_lt_of_cell? _ _ (hHeld.2.2.2))).trans (hHeld.2.2.2)
             have n0_ := Aside0.mk (Kd.R_below (Kd.R_elderB (kr_ HO_3) gb523 (Nat.le_of_eq hg.symm)) hb)
             have n1_ := Aside0.mk (blk_below (g := gb512) (o := .cells #[.int .i64 t509, .int .i64 t510] 30 (0, 0)) (bk_ BK512) hb)
             have n2_ := Aside0.mk (blk_below (g := gb516) (o := .cells #[.int .i64 t513, .int .i64 t514] 30 (0, 0)) (bk_ BK516) hb)
             have n3_ := Aside0.mk (blk_below (g := gb517) (o := .cells #[.int .i64 ((rd_T30 t505 (ji36)).f0), .int .i64 ((rd_T30 t505 (ji36)).f1)] 30 (0, 0)) (bk_ BK517) hb)
             have n4_ := Aside0.mk (below_step (bl_ HB) hb)
             have n5_ := Aside0.mk (hbox)
             have n6_ := Aside0.mk ((by rw [hg]; exact (below_size (bl_ HB)) : w.heap.size ≤ gb523))
             have n7_ := Aside0.mk ((by rw [hg]; exact (below_size (bl_ HB)) : w.heap.size ≤ gb523))
             have n8_ := Aside0.mk ((by rw [hg]; exact Nat.ne_of_lt (blk_lt (g := gb512) (o := .cells #[.int .i64 t509, .int .i64 t510] 30 (0, 0)) (bk_ BK512)) : gb512 ≠ gb523))
             have n9_ := Aside0.mk ((by rw [hg]; exact Nat.ne_of_gt (blk_lt (g := gb512) (o := .cells #[.int .i64 t509, .int .i64 t510] 30 (0, 0)) (bk_ BK512)) : gb523 ≠ gb512))
             have n10_ := Aside0.mk ((by rw [hg]; exact Nat.ne_of_lt (blk_lt (g := gb516) (o := .cells #[.int .i64 t513, .int .i64 t514] 30 (0, 0)) (bk_ BK516)) : gb516 ≠ gb523))
             have n11_ := Aside0.mk ((by rw [hg]; exact Nat.ne_of_gt (blk_lt (g := gb516) (o := .cells #[.int .i64 t513, .int .i64 t514] 30 (0, 0)) (bk_ BK516)) : gb523 ≠ gb516))
             have n12_ := Aside0.mk ((by rw [hg]; exact Nat.ne_of_lt (blk_lt (g := gb517) (o := .cells #[.int .i64 ((rd_T30 t505 (ji36)).f0), .int .i64 ((rd_T30 t505 (ji36)).f1)] 30 (0, 0)) (bk_ BK517)) : gb517 ≠ gb523))
             have n13_ := Aside0.mk ((by rw [hg]; exact Nat.ne_of_gt (blk_lt (g := gb517) (o := .cells #[.int .i64 ((rd_T30 t505 (ji36)).f0), .int .i64 ((rd_T30 t505 (ji36)).f1)] 30 (0, 0)) (bk_ BK517)) : gb523 ≠ gb517))
             clear HO_3
             clear BK512
             clear BK516
             clear BK517
             clear HB
             have HO_3 := n0_
             have BK512 := n1_
             have BK516 := n2_
             have BK517 := n3_
             have HB := n4_
             have BK523 := n5_
             have GW523 := n6_
             have GE523 := n7_
             have NB512_523 := n8_
             have NB523_512 := n9_
             have NB516_523 := n10_
             have NB523_516 := n11_
             have NB517_523 := n12_
             have NB523_517 := n13_
             clear n0_ n1_ n2_ n3_ n4_ n5_ n6_ n7_ n8_ n9_ n10_ n11_ n12_ n13_
             clear hb hbox hg
             refine hK.out _ _ ⟨(blk_cell BK512.out 0).trans rfl, (blk_cell BK512.out 1).trans rfl, HS2_, HS3_⟩ (fun hHeld => ?_)
             clear hK K
             refine norm_ (a' := ?_) ?_ ?_
             rotate_left
             ·
              show Act.put _ (some 10) _ = _
              simp only [Act.put, sa_, sb_, sc_, i64_w, i32_w]
              rfl
             refine one_ (i := 11) (N := some 72) #[true, true, true, true, true, true, true, true, true, true, true, true, false, false, false, true, false, false] rfl rfl (one_of HT_.out (by kernel_rfl)) (by decide) (fun K hK => ?_)
             refine goes_ Tryd.func21 (by kernel_rfl) rfl #[.agg #[.int .i64 (wrap64 (t509 + 1000000)), .int .i64 (wrap64 (t510 + 1000000))], .agg #[.int .i64 ((rd_T30 t505 t506).f0), .int .i64 ((rd_T30 t505 t506).f1)]] (by rfl) rfl rfl (by (try simp only [List.map_toArray, List.map_cons, List.map_nil]); first | done | rfl | (simp only [List.length_drop, List.length_take]; rfl)) ?_
             with_reducible refine (impl_MulRange.calls (wrap64 (t509 + 1000000)) (wrap64 (t510 + 1000000)) ((rd_T30 t505 t506).f0) ((rd_T30 t505 t506).f1) t520 t521 t522 _ ?side1 A41.out).mono ?_
             (case side1 => first | exact HTab.out | exact Tab.below HTab.out (bl_ HB))
             rintro e w85 ⟨rfl, hb⟩
             have HS2_ := (hb.cell (World.block_lt_of_cell? _ _ (hHeld.2.2.1))).trans (hHeld.2.2.1)
             have HS3_ := (hb.cell (World.block_lt_of_cell? _ _ (hHeld.2.2.2))).trans (hHeld.2.2.2)
             refine ⟨_, rfl, ?_⟩
             have n0_ := Aside0.mk (Kd.R_below (kr_ HO_3) hb)
             have n1_ := Aside0.mk (blk_below (g := gb512) (o := .cells #[.int .i64 t509, .int .i64 t510] 30 (0, 0)) (bk_ BK512) hb)
             have n2_ := Aside0.mk (blk_below (g := gb516) (o := .cells #[.int .i64 t513, .int .i64 t514] 30 (0, 0)) (bk_ BK516) hb)
             have n3_ := Aside0.mk (blk_below (g := gb517) (o := .cells #[.int .i64 ((rd_T30 t505 (ji36)).f0), .int .i64 ((rd_T30 t505 (ji36)).f1)] 30 (0, 0)) (bk_ BK517) hb)
             have n4_ := Aside0.mk (blk_below (g := gb523) (o := .cells #[.int .i64 0, .int .i64 0] 30 (0, 0)) (bk_ BK523) hb)
             have n5_ := Aside0.mk (below_step (bl_ HB) hb)
             clear HO_3
             clear BK512
             clear BK516
             clear BK517
             clear BK523
             clear HB
             have HO_3 := n0_
             have BK512 := n1_
             have BK516 := n2_
             have BK517 := n3_
             have BK523 := n4_
             have HB := n5_
             clear n0_ n1_ n2_ n3_ n4_ n5_
             (try clear hb)
             (try clear hb2)
             (try clear hk)
             (try clear hi)
             refine hK.out _ _ ⟨(blk_cell BK512.out 0).trans rfl, (blk_cell BK512.out 1).trans rfl, HS2_, HS3_⟩ (fun hHeld => ?_)
             clear hK K
             refine norm_ (a' := ?_) ?_ ?_
             rotate_left
             ·
              show Act.put _ (some 72) _ = _
              simp only [Act.put, sa_, sb_, sc_, i64_w, i32_w]
              rfl
             refine pure_ (i := 12) (N := some 60) (v := ?_) (a' := ?_) #[true, true, true, true, true, true, true, true, true, true, true, true, true, false, false, true, false, false] rfl rfl (any_of HT_.out (by kernel_rfl)) (fun _ _ _ h => h) (Or.inl ⟨by rfl, ?_⟩) ?_ ?_
             rotate_left
             ·
              intro w'
              go_simp
              with_reducible rfl
             rotate_left
             ·
              simp only [Act.put, sa_, sb_, sc_, i64_w, i32_w]
              rfl
             refine pure_ (i := 13) (N := some 73) (v := ?_) (a' := ?_) #[true, true, true, true, true, true, true, true, true, true, true, true, true, true, false, true, false, false] rfl rfl (any_of HT_.out (by kernel_rfl)) (fun _ _ _ h => h) (Or.inl ⟨by rfl, ?_⟩) ?_ ?_
             rotate_left
             ·
              intro w'
              go_simp
              with_reducible rfl
             rotate_left
             ·
              simp only [Act.put, sa_, sb_, sc_, i64_w, i32_w]
              rfl
             refine pure_ (i := 14) (N := some 74) (v := ?_) (a' := ?_) #[true, true, true, true, true, true, true, true, true, true, true, true, true, true, true, true, false, false] rfl rfl (any_of HT_.out (by kernel_rfl)) (fun _ _ _ h => h) (Or.inl ⟨by rfl, ?_⟩) ?_ ?_
             rotate_left
             ·
              intro w'
              go_simp
              with_reducible rfl
             rotate_left
             ·
              simp only [Act.put, sa_, sb_, sc_, i64_w, i32_w]
              rfl
             exact norm_ (by simp only [putAll, Act.put, sa_, sb_, sc_]) (hCont (gb523) _ ⟨hHeld, (by (with_reducible repeat (first | apply Kd.R_alloc | apply Kd.R_drewN | apply Kd.R_drew)); exact Kd.R_mono HO_3.out (fun _ hk => ⟨hk.1.1, ⟨hk.1.2.1, ⟨hk.1.2.2, hk.2⟩⟩⟩)), (bk_ BK512), (bk_ BK516), (bk_ BK517), (bk_ BK523), GW523.out, GE523.out, NB512_523.out, NB523_512.out, NB516_523.out, NB523_516.out, NB517_523.out, NB523_517.out, (bl_ HB)⟩)
           rintro gb523 w86 ⟨hS_, h0_, h1_, h2_, h3_, h4_, h5_, h6_, h7_, h8_, h9_, h10_, h11_, h12_, h13_⟩
           have n0_ : Aside0 (Kd.R k30 30 w86 w.heap.size (fun k_ => k_ ≠ gb512 ∧ k_ ≠ gb516 ∧ k_ ≠ gb517 ∧ k_ ≠ gb523) (.slice (some ad518) t505.length co8) t505) := ⟨h0_⟩
           have n1_ : Aside0 (w86.heap[gb512]? = some (.cells #[.int .i64 t509, .int .i64 t510] 30 (0, 0))) := ⟨h1_⟩
           have n2_ : Aside0 (w86.heap[gb516]? = some (.cells #[.int .i64 t513, .int .i64 t514] 30 (0, 0))) := ⟨h2_⟩
           have n3_ : Aside0 (w86.heap[gb517]? = some (.cells #[.int .i64 ((rd_T30 t505 (ji36)).f0), .int .i64 ((rd_T30 t505 (ji36)).f1)] 30 (0, 0))) := ⟨h3_⟩
           have n4_ : Aside0 (w86.heap[gb523]? = some (.cells #[.int .i64 0, .int .i64 0] 30 (0, 0))) := ⟨h4_⟩
           have n5_ : Aside0 (w.heap.size ≤ gb523) := ⟨h5_⟩
           have n6_ : Aside0 (w.heap.size ≤ gb523) := ⟨h6_⟩
           have n7_ : Aside0 (gb512 ≠ gb523) := ⟨h7_⟩
           have n8_ : Aside0 (gb523 ≠ gb512) := ⟨h8_⟩
           have n9_ : Aside0 (gb516 ≠ gb523) := ⟨h9_⟩
           have n10_ : Aside0 (gb523 ≠ gb516) := ⟨h10_⟩
           have n11_ : Aside0 (gb517 ≠ gb523) := ⟨h11_⟩
           have n12_ : Aside0 (gb523 ≠ gb517) := ⟨h12_⟩
           have n13_ : Aside0 (Below w.heap.size w w86) := ⟨h13_⟩
           clear HO_3
           clear BK512
           clear BK516
           clear BK517
           clear HB
           clear h0_ h1_ h2_ h3_ h4_ h5_ h6_ h7_ h8_ h9_ h10_ h11_ h12_ h13_
           have HO_3 := n0_
           have BK512 := n1_
           have BK516 := n2_
           have BK517 := n3_
           have BK523 := n4_
           have GW523 := n5_
           have GE523 := n6_
           have NB512_523 := n7_
           have NB523_512 := n8_
           have NB516_523 := n9_
           have NB523_516 := n10_
           have NB517_523 := n11_
           have NB523_517 := n12_
           have HB := n13_
           clear n0_ n1_ n2_ n3_ n4_ n5_ n6_ n7_ n8_ n9_ n10_ n11_ n12_ n13_
           have hHeld : w86.cell? ⟨gb512, 0, none⟩ = some (.int .i64 t509) ∧ w86.cell? ⟨gb512, 1, none⟩ = some (.int .i64 t510) ∧ w86.cell? (ad518.add ((t506).toNat * 2)) = some (.int .i64 ((rd_T30 t505 t506).f0)) ∧ w86.cell? ⟨(ad518.add ((t506).toNat * 2)).block, (ad518.add ((t506).toNat * 2)).off + 1, none⟩ = some (.int .i64 ((rd_T30 t505 t506).f1)) := hS_
           refine norm_ (a' := ?_) ?_ ?_
           rotate_left
           ·
            simp only [putAll, Act.put, sa_, sb_, sc_]
            rfl
           refine one_ (i := 16) (N := none) #[true, true, true, true, true, true, true, true, true, true, true, true, true, true, true, true, true, false] rfl rfl (one_of HT_.out (by kernel_rfl)) (by decide) (fun K hK => ?_)
           have hs87 : w86.cell? ⟨gb523, 0, none⟩ = some (.int .i64 0) := (blk_cell BK523.out 0).trans rfl
           have hfs87 := blk_frozen BK523.out 0
           have hns87_0 := NB512_523.out
           have hns87_1 := NB516_523.out
           have hns87_2 := NB517_523.out
           have hms87_0 := NB523_512.out
           have hms87_1 := NB523_516.out
           have hms87_2 := NB523_517.out
           have hs88 : w86.cell? ⟨gb523, 1, none⟩ = some (.int .i64 0) := (blk_cell BK523.out 1).trans rfl
           have hfs88 := blk_frozen BK523.out 1
           have hns88_0 := NB512_523.out
           have hns88_1 := NB516_523.out
           have hns88_2 := NB517_523.out
           have hms88_0 := NB523_512.out
           have hms88_1 := NB523_516.out
           have hms88_2 := NB523_517.out
           refine skip_ (w1 := ?_) (by rfl) rfl ?_ ?_
           rotate_left
           ·
            go_simp
            rfl
           refine hK.out _ _ ⟨((cell_far (p := ⟨gb523, _, none⟩) NB512_523.out _).trans (((cell_far (p := ⟨gb523, _, none⟩) NB512_523.out _).trans (hHeld.1)))), ((cell_far (p := ⟨gb523, _, none⟩) NB512_523.out _).trans (((cell_far (p := ⟨gb523, _, none⟩) NB512_523.out _).trans (hHeld.2.1)))), ((cell_far (p := ⟨gb523, _, none⟩) (by first | exact Kd.own_blk (Kd.R_away HO_3.out (fun _ hk => hk.2.2.2)) | (rw [add_block]; exact Kd.own_blk (Kd.R_away HO_3.out (fun _ hk => hk.2.2.2))) | (show (Addr.add _ _).block ≠ _; rw [add_block]; exact Kd.own_blk (Kd.R_away HO_3.out (fun _ hk => hk.2.2.2))) | (dsimp only; exact Kd.own_blk (Kd.R_away HO_3.out (fun _ hk => hk.2.2.2)))) _).trans (((cell_far (p := ⟨gb523, _, none⟩) (by first | exact Kd.own_blk (Kd.R_away HO_3.out (fun _ hk => hk.2.2.2)) | (rw [add_block]; exact Kd.own_blk (Kd.R_away HO_3.out (fun _ hk => hk.2.2.2))) | (show (Addr.add _ _).block ≠ _; rw [add_block]; exact Kd.own_blk (Kd.R_away HO_3.out (fun _ hk => hk.2.2.2))) | (dsimp only; exact Kd.own_blk (Kd.R_away HO_3.out (fun _ hk => hk.2.2.2)))) _).trans (hHeld.2.2.1)))), ((cell_far (p := ⟨gb523, _, none⟩) (by first | exact Kd.own_blk (Kd.R_away HO_3.out (fun _ hk => hk.2.2.2)) | (rw [add_block]; exact Kd.own_blk (Kd.R_away HO_3.out (fun _ hk => hk.2.2.2))) | (show (Addr.add _ _).block ≠ _; rw [add_block]; exact Kd.own_blk (Kd.R_away HO_3.out (fun _ hk => hk.2.2.2))) | (dsimp only; exact Kd.own_blk (Kd.R_away HO_3.out (fun _ hk => hk.2.2.2)))) _).trans (((cell_far (p := ⟨gb523, _, none⟩) (by first | exact Kd.own_blk (Kd.R_away HO_3.out (fun _ hk => hk.2.2.2)) | (rw [add_block]; exact Kd.own_blk (Kd.R_away HO_3.out (fun _ hk => hk.2.2.2))) | (show (Addr.add _ _).block ≠ _; rw [add_block]; exact Kd.own_blk (Kd.R_away HO_3.out (fun _ hk => hk.2.2.2))) | (dsimp only; exact Kd.own_blk (Kd.R_away HO_3.out (fun _ hk => hk.2.2.2)))) _).trans (hHeld.2.2.2))))⟩ (fun hHeld => ?_)
           clear hK K
           refine pure_ (i := 17) (N := some 11) (v := ?_) (a' := ?_) #[true, true, true, true, true, true, true, true, true, true, true, true, true, true, true, true, true, true] rfl rfl (any_of HT_.out (by kernel_rfl)) (fun _ _ _ h => h) (Or.inl ⟨by rfl, ?_⟩) ?_ ?_
           rotate_left
           ·
            intro w'
            go_simp
            with_reducible rfl
           rotate_left
           ·
            simp only [Act.put, sa_, sb_, sc_, i64_w, i32_w]
            rfl
           refine done_ (done_of HT_.out (by kernel_rfl)) ?_
           have hnb89 := NB512_516.out
           have hnc89 := NB516_512.out
           have hnb90 := NB512_523.out
           have hnc90 := NB523_512.out
           have hcz91_0 : w86.cell? ⟨gb512, 0, none⟩ = some (.int .i64 t509) := (blk_cell BK512.out 0).trans rfl
           have hcz91_1 : w86.cell? ⟨gb512, 1, none⟩ = some (.int .i64 t510) := (blk_cell BK512.out 1).trans rfl
           have hfz91_0 := blk_frozen BK512.out 0
           have hfz91_1 := blk_frozen BK512.out 1
           try go_wp2
           go_ret
           exact ⟨by first | rfl | (simp [errW_none, errW_some] <;> rfl) | (simp only [← hji36]; first | rfl | (simp [errW_none, errW_some] <;> rfl)) | (simp [*, errW_none, errW_some] <;> rfl), by repeat (first | (with_reducible first | exact HB.out | apply below_alloc | apply pw_below_drewN | apply below_drew1 | refine below_set ?_ GE512.out | refine below_set ?_ GE516.out | refine below_set ?_ GE517.out | refine below_set ?_ GE523.out) | exact HB.out)⟩
         ·
          rw [if_neg c40] at H
          exact absurd H (by simp)
        ·
         rw [if_neg c39] at H
         exact absurd H (by simp)
       ·
        rw [if_neg c38] at H
        exact absurd H (by simp)
      ·
       rw [if_neg c37] at H
       exact absurd H (by simp)
     ·
      rw [if_neg c35] at H
      have c35b0 : decide (0 < t506) = false := decide_eq_false c35
      clear c35
      by_cases c92 : 0 ≤ t506
      ·
       rw [if_pos c92] at H
       have c92b0 : decide (0 ≤ t506) = true := decide_eq_true c92
       clear c92
       by_cases c93 : t506 < (t505.length : Int)
       ·
        rw [if_pos c93] at H
        have c93b0 : decide (t506 < (t505.length : Int)) = true := decide_eq_true c93
        clear c93
        replace H := Option.bind_eq_some_iff.mp H
        obtain ⟨⟨t526, t527, t528⟩, A940, H⟩ := H
        replace H : (if t509 ≤ t510 then (if t528 = true then ((laws_within.f 1000000 1000000 t526 t527).bind fun t530 => (some t530)) else (some true)) else (some false)) = some r := H
        have A94 := Aside0.mk A940
        clear A940
        by_cases c95 : t509 ≤ t510
        ·
         rw [if_pos c95] at H
         have c95b0 : decide (t509 ≤ t510) = true := decide_eq_true c95
         clear c95
         by_cases c96 : t528 = true
         ·
          subst c96
          have H1 : ((laws_within.f 1000000 1000000 t526 t527).bind fun t530 => (some t530)) = some r := by rw [if_pos rfl] at H; exact H
          clear H
          have H := H1
          clear H1
          replace H := Option.bind_eq_some_iff.mp H
          obtain ⟨t530, A970, H⟩ := H
          replace H : (some t530) = some r := H
          have A97 := Aside0.mk A970
          clear A970
          obtain rfl := Option.some.inj H
          try go_wp2_with (first | ((with_reducible refine gate_dst (N := 9) rfl ?_); refine box_event ?hg (N := 9) ?hd (cs := #[.int .i64 0, .int .i64 0]) (t := 30) ?hr ?_; (case hd => rfl); (case hg => rfl); (case hr => first | (go_simp; done) | (go_simp; rfl)); intro gb517 hg w98 hbox hb; have n0_ := Aside0.mk (Kd.R_below (Kd.R_elderB (kr_ HO_3) gb517 (Nat.le_of_eq hg.symm)) hb); have n1_ := Aside0.mk (blk_below (g := gb512) (o := .cells #[.int .i64 t509, .int .i64 t510] 30 (0, 0)) (bk_ BK512) hb); have n2_ := Aside0.mk (blk_below (g := gb516) (o := .cells #[.int .i64 t513, .int .i64 t514] 30 (0, 0)) (bk_ BK516) hb); have n3_ := Aside0.mk (below_step (bl_ HB) hb); have n4_ := Aside0.mk (hbox); have n5_ := Aside0.mk ((by rw [hg]; exact (below_size (bl_ HB)) : w.heap.size ≤ gb517)); have n6_ := Aside0.mk ((by rw [hg]; exact (below_size (bl_ HB)) : w.heap.size ≤ gb517)); have n7_ := Aside0.mk ((by rw [hg]; exact Nat.ne_of_lt (blk_lt (g := gb512) (o := .cells #[.int .i64 t509, .int .i64 t510] 30 (0, 0)) (bk_ BK512)) : gb512 ≠ gb517)); have n8_ := Aside0.mk ((by rw [hg]; exact Nat.ne_of_gt (blk_lt (g := gb512) (o := .cells #[.int .i64 t509, .int .i64 t510] 30 (0, 0)) (bk_ BK512)) : gb517 ≠ gb512)); have n9_ := Aside0.mk ((by rw [hg]; exact Nat.ne_of_lt (blk_lt (g := gb516) (o := .cells #[.int .i64 t513, .int .i64 t514] 30 (0, 0)) (bk_ BK516)) : gb516 ≠ gb517)); have n10_ := Aside0.mk ((by rw [hg]; exact Nat.ne_of_gt (blk_lt (g := gb516) (o := .cells #[.int .i64 t513, .int .i64 t514] 30 (0, 0)) (bk_ BK516)) : gb517 ≠ gb516)); clear HO_3; clear BK512; clear BK516; clear HB; have HO_3 := n0_; have BK512 := n1_; have BK516 := n2_; have HB := n3_; have BK517 := n4_; have GW517 := n5_; have GE517 := n6_; have NB512_517 := n7_; have NB517_512 := n8_; have NB516_517 := n9_; have NB517_516 := n10_; clear n0_ n1_ n2_ n3_ n4_ n5_ n6_ n7_ n8_ n9_ n10_; clear hb hbox hg; have hnb99 := NB517_512.out; have hnc99 := NB512_517.out; have hnb100 := NB517_516.out; have hnc100 := NB516_517.out; have hcz101_0 : w98.cell? ⟨gb517, 0, none⟩ = some (.int .i64 0) := (blk_cell BK517.out 0).trans rfl; have hcz101_1 : w98.cell? ⟨gb517, 1, none⟩ = some (.int .i64 0) := (blk_cell BK517.out 1).trans rfl; have hfz101_0 := blk_frozen BK517.out 0; have hfz101_1 := blk_frozen BK517.out 1))
          have n0_ : Aside0 (Kd.R k30 30 ((w98.setCell ⟨gb517, 0, none⟩ (.int .i64 1000000)).setCell ⟨gb517, 1, none⟩ (.int .i64 1000000)) w.heap.size (fun k_ => k_ ≠ gb512 ∧ k_ ≠ gb516 ∧ k_ ≠ gb517) (.slice Ao8 t505.length co8) t505) := ⟨by (with_reducible repeat (first | apply Kd.R_alloc | apply Kd.R_drewN | apply Kd.R_drew)); exact Kd.R_mono (Kd.R_far (p := ⟨gb517, 1, none⟩) (Kd.R_far (p := ⟨gb517, 0, none⟩) (Kd.R_mono HO_3.out (fun k_ hk => (⟨hk, hk.2⟩ : _ ∧ k_ ≠ gb517))) (fun _ hk => hk.2) (.int .i64 1000000)) (fun _ hk => hk.2) (.int .i64 1000000)) (fun _ hk => ⟨hk.1.1.1, ⟨hk.1.1.2, hk.1.2⟩⟩)⟩
          have n1_ : Aside0 (((w98.setCell ⟨gb517, 0, none⟩ (.int .i64 1000000)).setCell ⟨gb517, 1, none⟩ (.int .i64 1000000)).heap[gb512]? = some (.cells #[.int .i64 t509, .int .i64 t510] 30 (0, 0))) := ⟨by (with_reducible repeat (first | refine blk_drewN ?_ _ | refine blk_drew ?_ | refine blk_alloc ?_ _)); refine blk_far ?_ NB512_517.out _; (with_reducible repeat (first | refine blk_drewN ?_ _ | refine blk_drew ?_ | refine blk_alloc ?_ _)); refine blk_far ?_ NB512_517.out _; (with_reducible repeat (first | refine blk_drewN ?_ _ | refine blk_drew ?_ | refine blk_alloc ?_ _)); exact BK512.out⟩
          have n2_ : Aside0 (((w98.setCell ⟨gb517, 0, none⟩ (.int .i64 1000000)).setCell ⟨gb517, 1, none⟩ (.int .i64 1000000)).heap[gb516]? = some (.cells #[.int .i64 t513, .int .i64 t514] 30 (0, 0))) := ⟨by (with_reducible repeat (first | refine blk_drewN ?_ _ | refine blk_drew ?_ | refine blk_alloc ?_ _)); refine blk_far ?_ NB516_517.out _; (with_reducible repeat (first | refine blk_drewN ?_ _ | refine blk_drew ?_ | refine blk_alloc ?_ _)); refine blk_far ?_ NB516_517.out _; (with_reducible repeat (first | refine blk_drewN ?_ _ | refine blk_drew ?_ | refine blk_alloc ?_ _)); exact BK516.out⟩
          have n3_ : Aside0 (((w98.setCell ⟨gb517, 0, none⟩ (.int .i64 1000000)).setCell ⟨gb517, 1, none⟩ (.int .i64 1000000)).heap[gb517]? = some (.cells #[.int .i64 1000000, .int .i64 1000000] 30 (0, 0))) := ⟨by (with_reducible repeat (first | refine blk_drewN ?_ _ | refine blk_drew ?_ | refine blk_alloc ?_ _)); refine blk_put (cs := #[.int .i64 1000000, .int .i64 0]) ?_ 1 _ rfl; (with_reducible repeat (first | refine blk_drewN ?_ _ | refine blk_drew ?_ | refine blk_alloc ?_ _)); refine blk_put (cs := #[.int .i64 0, .int .i64 0]) ?_ 0 _ rfl; (with_reducible repeat (first | refine blk_drewN ?_ _ | refine blk_drew ?_ | refine blk_alloc ?_ _)); exact BK517.out⟩
          have n4_ : Aside0 (Below w.heap.size w ((w98.setCell ⟨gb517, 0, none⟩ (.int .i64 1000000)).setCell ⟨gb517, 1, none⟩ (.int .i64 1000000))) := ⟨by repeat (first | (with_reducible first | exact HB.out | apply below_alloc | apply pw_below_drewN | apply below_drew1 | refine below_set ?_ GE512.out | refine below_set ?_ GE516.out | refine below_set ?_ GE517.out) | exact HB.out)⟩
          (try clear HO_3)
          (try clear BK512)
          (try clear BK516)
          (try clear BK517)
          (try clear HB)
          generalize ((w98.setCell ⟨gb517, 0, none⟩ (.int .i64 1000000)).setCell ⟨gb517, 1, none⟩ (.int .i64 1000000)) = w102 at n0_ n1_ n2_ n3_ n4_ ⊢
          have HO_3 := n0_
          have BK512 := n1_
          have BK516 := n2_
          have BK517 := n3_
          have HB := n4_
          clear n0_ n1_ n2_ n3_ n4_
          have n0_ := Aside0.mk (Kd.R_drew HO_3.out)
          have n1_ := Aside0.mk (blk_drew BK512.out)
          have n2_ := Aside0.mk (blk_drew BK516.out)
          have n3_ := Aside0.mk (blk_drew BK517.out)
          have n4_ := Aside0.mk (below_drew1 HB.out)
          clear HO_3
          clear BK512
          clear BK516
          clear BK517
          clear HB
          have HO_3 := n0_
          have BK512 := n1_
          have BK516 := n2_
          have BK517 := n3_
          have HB := n4_
          clear n0_ n1_ n2_ n3_ n4_
          have p525 : 0 ≤ (t506 : Int) := of_decide_eq_true (by first | (with_reducible assumption) | assumption)
          have q525 : t506 < (t505.length : Int) := of_decide_eq_true (by first | (with_reducible assumption) | assumption)
          obtain ⟨ad525, e525, hx525_0, hx525_1⟩ := at_T30 (Kd.R_reads' HO_3.out).2.2 t506 p525 q525
          cases e525
          replace p525 := eq_true p525
          replace q525 := eq_true q525
          refine start_ (n := 18) (S := fun w' => w'.cell? ⟨gb512, 0, none⟩ = some (.int .i64 t509) ∧ w'.cell? ⟨gb512, 1, none⟩ = some (.int .i64 t510) ∧ w'.cell? (ad525.add ((t506).toNat * 2)) = some (.int .i64 ((rd_T30 t505 t506).f0)) ∧ w'.cell? ⟨(ad525.add ((t506).toNat * 2)).block, (ad525.add ((t506).toNat * 2)).off + 1, none⟩ = some (.int .i64 ((rd_T30 t505 t506).f1))) (ds := []) #[false, false, false, false, false, false, false, false, false, false, false, false, false, false, false, false, false, false] (by kernel_rfl) rfl rfl ⟨(blk_cell BK512.out 0).trans rfl, (blk_cell BK512.out 1).trans rfl, hx525_0, hx525_1⟩ (fun hHeld => ?_); refine with_tabW laws_FnForwardOf.tab11 laws_FnForwardOf.bits11 (fun HT_ HW_ => ?_)
          generalize w102.drew = w103 at HO_3 BK512 BK516 BK517 HB hx525_0 hx525_1 hHeld ⊢
          refine pure_ (i := 0) (N := some 61) (v := ?_) (a' := ?_) #[true, false, false, false, false, false, false, false, false, false, false, false, false, false, false, false, false, false] rfl rfl (any_of HT_.out (by kernel_rfl)) (fun _ _ _ h => h) (Or.inl ⟨by rfl, ?_⟩) ?_ ?_
          rotate_left
          ·
           intro w'
           go_simp
           with_reducible rfl
          rotate_left
          ·
           simp only [Act.put, sa_, sb_, sc_, i64_w, i32_w]
           rfl
          refine pure_ (i := 3) (N := some 64) (v := ?_) (a' := ?_) #[true, false, false, true, false, false, false, false, false, false, false, false, false, false, false, false, false, false] rfl rfl (any_of HT_.out (by kernel_rfl)) (fun _ _ _ h => h) (Or.inl ⟨by rfl, ?_⟩) ?_ ?_
          rotate_left
          ·
           intro w'
           go_simp
           with_reducible rfl
          rotate_left
          ·
           simp only [Act.put, sa_, sb_, sc_, i64_w, i32_w]
           rfl
          refine pure_ (i := 7) (N := some 68) (v := ?_) (a' := ?_) #[true, false, false, true, false, false, false, true, false, false, false, false, false, false, false, false, false, false] rfl rfl (any_of HT_.out (by kernel_rfl)) (fun _ _ _ h => h) (Or.inl ⟨by rfl, ?_⟩) ?_ ?_
          rotate_left
          ·
           intro w'
           go_simp
           with_reducible rfl
          rotate_left
          ·
           simp only [Act.put, sa_, sb_, sc_, i64_w, i32_w]
           rfl
          refine pure_ (i := 8) (N := some 69) (v := ?_) (a' := ?_) #[true, false, false, true, false, false, false, true, true, false, false, false, false, false, false, false, false, false] rfl rfl (any_of HT_.out (by kernel_rfl)) (fun _ _ _ h => h) (Or.inl ⟨by rfl, ?_⟩) ?_ ?_
          rotate_left
          ·
           intro w'
           go_simp
           with_reducible rfl
          rotate_left
          ·
           simp only [Act.put, sa_, sb_, sc_, i64_w, i32_w]
           rfl
          refine pure_ (i := 9) (N := some 70) (v := ?_) (a' := ?_) #[true, false, false, true, false, false, false, true, true, true, false, false, false, false, false, false, false, false] rfl rfl (any_of HT_.out (by kernel_rfl)) (fun _ _ _ h => h) (Or.inl ⟨by rfl, ?_⟩) ?_ ?_
          rotate_left
          ·
           intro w'
           go_simp
           with_reducible rfl
          rotate_left
          ·
           simp only [Act.put, sa_, sb_, sc_, i64_w, i32_w]
           rfl
          refine take_ (i := 1) (N := some 62) (v := ?_) (a' := ?_) #[true, true, false, true, false, false, false, true, true, true, false, false, false, false, false, false, false, false] rfl rfl (take_ofW HT_.out HW_.out (by kernel_rfl)) (fun _ _ _ h => h) (Or.inl ⟨by rfl, ?_⟩) hHeld ?_ ?_
          rotate_left
          ·
           rintro w' ⟨s0, s1, s2, s3⟩
           go_simp
           with_reducible rfl
          rotate_left
          ·
           simp only [Act.put, sa_, sb_, sc_, i64_w, i32_w]
           rfl
          refine pure_ (i := 2) (N := some 63) (v := ?_) (a' := ?_) #[true, true, true, true, false, false, false, true, true, true, false, false, false, false, false, false, false, false] rfl rfl (any_of HT_.out (by kernel_rfl)) (fun _ _ _ h => h) (Or.inl ⟨by rfl, ?_⟩) ?_ ?_
          rotate_left
          ·
           intro w'
           go_simp
           with_reducible rfl
          rotate_left
          ·
           simp only [Act.put, sa_, sb_, sc_, i64_w, i32_w]
           rfl
          refine take_ (i := 4) (N := some 65) (v := ?_) (a' := ?_) #[true, true, true, true, true, false, false, true, true, true, false, false, false, false, false, false, false, false] rfl rfl (take_ofW HT_.out HW_.out (by kernel_rfl)) (fun _ _ _ h => h) (Or.inl ⟨by rfl, ?_⟩) hHeld ?_ ?_
          rotate_left
          ·
           rintro w' ⟨s0, s1, s2, s3⟩
           go_simp
           with_reducible rfl
          rotate_left
          ·
           simp only [Act.put, sa_, sb_, sc_, i64_w, i32_w]
           rfl
          refine pure_ (i := 5) (N := some 66) (v := ?_) (a' := ?_) #[true, true, true, true, true, true, false, true, true, true, false, false, false, false, false, false, false, false] rfl rfl (any_of HT_.out (by kernel_rfl)) (fun _ _ _ h => h) (Or.inl ⟨by rfl, ?_⟩) ?_ ?_
          rotate_left
          ·
           intro w'
           go_simp
           with_reducible rfl
          rotate_left
          ·
           simp only [Act.put, sa_, sb_, sc_, i64_w, i32_w]
           rfl
          refine pure_ (i := 6) (N := some 67) (v := ?_) (a' := ?_) #[true, true, true, true, true, true, true, true, true, true, false, false, false, false, false, false, false, false] rfl rfl (any_of HT_.out (by kernel_rfl)) (fun _ _ _ h => h) (Or.inl ⟨by rfl, ?_⟩) ?_ ?_
          rotate_left
          ·
           intro w'
           go_simp
           with_reducible rfl
          rotate_left
          ·
           simp only [Act.put, sa_, sb_, sc_, i64_w, i32_w]
           rfl
          refine take_ (i := 10) (N := some 71) (v := ?_) (a' := ?_) #[true, true, true, true, true, true, true, true, true, true, true, false, false, false, false, false, false, false] rfl rfl (take_ofW HT_.out HW_.out (by kernel_rfl)) (fun _ _ _ h => h) (Or.inl ⟨by rfl, ?_⟩) hHeld ?_ ?_
          rotate_left
          ·
           rintro w' ⟨s0, s1, s2, s3⟩
           go_simp
           with_reducible rfl
          rotate_left
          ·
           simp only [Act.put, sa_, sb_, sc_, i64_w, i32_w]
           rfl
          refine join_ (σ := Nat) 2 #[true, true, true, true, true, true, true, true, true, true, true, true, true, true, true, true, false, false] (fun s_ => [(72, .tuple #[.agg #[.int .i64 t526, .int .i64 t527], .bool true]), (10, .pointer (some ⟨s_, 0, none⟩)), (60, .tuple #[.agg #[.int .i64 t526, .int .i64 t527], .bool true]), (73, .agg #[.int .i64 t526, .int .i64 t527]), (74, .bool true)]) (fun s_ w' => (w'.cell? ⟨gb512, 0, none⟩ = some (.int .i64 t509) ∧ w'.cell? ⟨gb512, 1, none⟩ = some (.int .i64 t510) ∧ w'.cell? (ad525.add ((t506).toNat * 2)) = some (.int .i64 ((rd_T30 t505 t506).f0)) ∧ w'.cell? ⟨(ad525.add ((t506).toNat * 2)).block, (ad525.add ((t506).toNat * 2)).off + 1, none⟩ = some (.int .i64 ((rd_T30 t505 t506).f1))) ∧ (Kd.R k30 30 w' w.heap.size (fun k_ => k_ ≠ gb512 ∧ k_ ≠ gb516 ∧ k_ ≠ gb517 ∧ k_ ≠ s_) (.slice (some ad525) t505.length co8) t505) ∧ (w'.heap[gb512]? = some (.cells #[.int .i64 t509, .int .i64 t510] 30 (0, 0))) ∧ (w'.heap[gb516]? = some (.cells #[.int .i64 t513, .int .i64 t514] 30 (0, 0))) ∧ (w'.heap[gb517]? = some (.cells #[.int .i64 1000000, .int .i64 1000000] 30 (0, 0))) ∧ (w'.heap[s_]? = some (.cells #[.int .i64 0, .int .i64 0] 30 (0, 0))) ∧ (w.heap.size ≤ s_) ∧ (w.heap.size ≤ s_) ∧ (gb512 ≠ s_) ∧ (s_ ≠ gb512) ∧ (gb516 ≠ s_) ∧ (s_ ≠ gb516) ∧ (gb517 ≠ s_) ∧ (s_ ≠ gb517) ∧ (Below w.heap.size w w')) ?_ ?_
          rotate_left
          ·
           intro hCont
           refine two_ (i := 11) (j := 15) (Ni := some 72) (Nj := some 10) #[true, true, true, true, true, true, true, true, true, true, true, true, false, false, false, false, false, false] #[true, true, true, true, true, true, true, true, true, true, true, false, false, false, false, true, false, false] rfl rfl rfl rfl (two_of HT_.out (by kernel_rfl)) (by decide) (by decide) (fun K hK => ?_) (fun K hK => ?_)
           ·
            skip
            refine goes_ Tryd.func21 (by kernel_rfl) rfl #[.agg #[.int .i64 (wrap64 (t509 + 1000000)), .int .i64 (wrap64 (t510 + 1000000))], .agg #[.int .i64 ((rd_T30 t505 t506).f0), .int .i64 ((rd_T30 t505 t506).f1)]] (by rfl) rfl rfl (by (try simp only [List.map_toArray, List.map_cons, List.map_nil]); first | done | rfl | (simp only [List.length_drop, List.length_take]; rfl)) ?_
            with_reducible refine (impl_MulRange.calls (wrap64 (t509 + 1000000)) (wrap64 (t510 + 1000000)) ((rd_T30 t505 t506).f0) ((rd_T30 t505 t506).f1) t526 t527 true _ ?side1 A94.out).mono ?_
            (case side1 => first | exact HTab.out | exact Tab.below HTab.out (bl_ HB))
            rintro e w104 ⟨rfl, hb⟩
            have HS2_ := (hb.cell (World.block_lt_of_cell? _ _ (hHeld.2.2.1))).trans (hHeld.2.2.1)
            have HS3_ := (hb.cell (World.block_lt_of_cell? _ _ (hHeld.2.2.2))).trans (hHeld.2.2.2)
            refine ⟨_, rfl, ?_⟩
            have n0_ := Aside0.mk (Kd.R_below (kr_ HO_3) hb)
            have n1_ := Aside0.mk (blk_below (g := gb512) (o := .cells #[.int .i64 t509, .int .i64 t510] 30 (0, 0)) (bk_ BK512) hb)
            have n2_ := Aside0.mk (blk_below (g := gb516) (o := .cells #[.int .i64 t513, .int .i64 t514] 30 (0, 0)) (bk_ BK516) hb)
            have n3_ := Aside0.mk (blk_below (g := gb517) (o := .cells #[.int .i64 1000000, .int .i64 1000000] 30 (0, 0)) (bk_ BK517) hb)
            have n4_ := Aside0.mk (below_step (bl_ HB) hb)
            clear HO_3
            clear BK512
            clear BK516
            clear BK517
            clear HB
            have HO_3 := n0_
            have BK512 := n1_
            have BK516 := n2_
            have BK517 := n3_
            have HB := n4_
            clear n0_ n1_ n2_ n3_ n4_
            (try clear hb)
            (try clear hb2)
            (try clear hk)
            (try clear hi)
            refine hK.out _ _ ⟨(blk_cell BK512.out 0).trans rfl, (blk_cell BK512.out 1).trans rfl, HS2_, HS3_⟩ (fun hHeld => ?_)
            clear hK K
            refine norm_ (a' := ?_) ?_ ?_
            rotate_left
            ·
             show Act.put _ (some 72) _ = _
             simp only [Act.put, sa_, sb_, sc_, i64_w, i32_w]
             rfl
            refine pure_ (i := 12) (N := some 60) (v := ?_) (a' := ?_) #[true, true, true, true, true, true, true, true, true, true, true, true, true, false, false, false, false, false] rfl rfl (any_of HT_.out (by kernel_rfl)) (fun _ _ _ h => h) (Or.inl ⟨by rfl, ?_⟩) ?_ ?_
            rotate_left
            ·
             intro w'
             go_simp
             with_reducible rfl
            rotate_left
            ·
             simp only [Act.put, sa_, sb_, sc_, i64_w, i32_w]
             rfl
            refine pure_ (i := 13) (N := some 73) (v := ?_) (a' := ?_) #[true, true, true, true, true, true, true, true, true, true, true, true, true, true, false, false, false, false] rfl rfl (any_of HT_.out (by kernel_rfl)) (fun _ _ _ h => h) (Or.inl ⟨by rfl, ?_⟩) ?_ ?_
            rotate_left
            ·
             intro w'
             go_simp
             with_reducible rfl
            rotate_left
            ·
             simp only [Act.put, sa_, sb_, sc_, i64_w, i32_w]
             rfl
            refine pure_ (i := 14) (N := some 74) (v := ?_) (a' := ?_) #[true, true, true, true, true, true, true, true, true, true, true, true, true, true, true, false, false, false] rfl rfl (any_of HT_.out (by kernel_rfl)) (fun _ _ _ h => h) (Or.inl ⟨by rfl, ?_⟩) ?_ ?_
            rotate_left
            ·
             intro w'
             go_simp
             with_reducible rfl
            rotate_left
            ·
             simp only [Act.put, sa_, sb_, sc_, i64_w, i32_w]
             rfl
            refine one_ (i := 15) (N := some 10) #[true, true, true, true, true, true, true, true, true, true, true, true, true, true, true, true, false, false] rfl rfl (one_of HT_.out (by kernel_rfl)) (by decide) (fun K hK => ?_)
            refine box_step ?hg (N := 10) ?hd (cs := #[.int .i64 0, .int .i64 0]) (t := 30) ?hr ?_; (case hd => rfl); (case hg => rfl); (case hr => first | (go_simp; done) | (go_simp; rfl))
            intro gb529 hg w105 hbox hb
            have HS2_ := (hb.cell (World.block_lt_of_cell? _ _ (hHeld.2.2.1))).trans (hHeld.2.2.1)
            have HS3_ := (hb.cell (World.block_lt_of_cell? _ _ (hHeld.2.2.2))).trans (hHeld.2.2.2)
            have n0_ := Aside0.mk (Kd.R_below (Kd.R_elderB (kr_ HO_3) gb529 (Nat.le_of_eq hg.symm)) hb)
            have n1_ := Aside0.mk (blk_below (g := gb512) (o := .cells #[.int .i64 t509, .int .i64 t510] 30 (0, 0)) (bk_ BK512) hb)
            have n2_ := Aside0.mk (blk_below (g := gb516) (o := .cells #[.int .i64 t513, .int .i64 t514] 30 (0, 0)) (bk_ BK516) hb)
            have n3_ := Aside0.mk (blk_below (g := gb517) (o := .cells #[.int .i64 1000000, .int .i64 1000000] 30 (0, 0)) (bk_ BK517) hb)
            have n4_ := Aside0.mk (below_step (bl_ HB) hb)
            have n5_ := Aside0.mk (hbox)
            have n6_ := Aside0.mk ((by rw [hg]; exact (below_size (bl_ HB)) : w.heap.size ≤ gb529))
            have n7_ := Aside0.mk ((by rw [hg]; exact (below_size (bl_ HB)) : w.heap.size ≤ gb529))
            have n8_ := Aside0.mk ((by rw [hg]; exact Nat.ne_of_lt (blk_lt (g := gb512) (o := .cells #[.int .i64 t509, .int .i64 t510] 30 (0, 0)) (bk_ BK512)) : gb512 ≠ gb529))
            have n9_ := Aside0.mk ((by rw [hg]; exact Nat.ne_of_gt (blk_lt (g := gb512) (o := .cells #[.int .i64 t509, .int .i64 t510] 30 (0, 0)) (bk_ BK512)) : gb529 ≠ gb512))
            have n10_ := Aside0.mk ((by rw [hg]; exact Nat.ne_of_lt (blk_lt (g := gb516) (o := .cells #[.int .i64 t513, .int .i64 t514] 30 (0, 0)) (bk_ BK516)) : gb516 ≠ gb529))
            have n11_ := Aside0.mk ((by rw [hg]; exact Nat.ne_of_gt (blk_lt (g := gb516) (o := .cells #[.int .i64 t513, .int .i64 t514] 30 (0, 0)) (bk_ BK516)) : gb529 ≠ gb516))
            have n12_ := Aside0.mk ((by rw [hg]; exact Nat.ne_of_lt (blk_lt (g := gb517) (o := .cells #[.int .i64 1000000, .int .i64 1000000] 30 (0, 0)) (bk_ BK517)) : gb517 ≠ gb529))
            have n13_ := Aside0.mk ((by rw [hg]; exact Nat.ne_of_gt (blk_lt (g := gb517) (o := .cells #[.int .i64 1000000, .int .i64 1000000] 30 (0, 0)) (bk_ BK517)) : gb529 ≠ gb517))
            clear HO_3
            clear BK512
            clear BK516
            clear BK517
            clear HB
            have HO_3 := n0_
            have BK512 := n1_
            have BK516 := n2_
            have BK517 := n3_
            have HB := n4_
            have BK529 := n5_
            have GW529 := n6_
            have GE529 := n7_
            have NB512_529 := n8_
            have NB529_512 := n9_
            have NB516_529 := n10_
            have NB529_516 := n11_
            have NB517_529 := n12_
            have NB529_517 := n13_
            clear n0_ n1_ n2_ n3_ n4_ n5_ n6_ n7_ n8_ n9_ n10_ n11_ n12_ n13_
            clear hb hbox hg
            refine hK.out _ _ ⟨(blk_cell BK512.out 0).trans rfl, (blk_cell BK512.out 1).trans rfl, HS2_, HS3_⟩ (fun hHeld => ?_)
            clear hK K
            refine norm_ (a' := ?_) ?_ ?_
            rotate_left
            ·
             show Act.put _ (some 10) _ = _
             simp only [Act.put, sa_, sb_, sc_, i64_w, i32_w]
             rfl
            exact norm_ (by simp only [putAll, Act.put, sa_, sb_, sc_]) (hCont (gb529) _ ⟨hHeld, (by (with_reducible repeat (first | apply Kd.R_alloc | apply Kd.R_drewN | apply Kd.R_drew)); exact Kd.R_mono HO_3.out (fun _ hk => ⟨hk.1.1, ⟨hk.1.2.1, ⟨hk.1.2.2, hk.2⟩⟩⟩)), (bk_ BK512), (bk_ BK516), (bk_ BK517), (bk_ BK529), GW529.out, GE529.out, NB512_529.out, NB529_512.out, NB516_529.out, NB529_516.out, NB517_529.out, NB529_517.out, (bl_ HB)⟩)
           ·
            skip
            refine box_step ?hg (N := 10) ?hd (cs := #[.int .i64 0, .int .i64 0]) (t := 30) ?hr ?_; (case hd => rfl); (case hg => rfl); (case hr => first | (go_simp; done) | (go_simp; rfl))
            intro gb529 hg w104 hbox hb
            have HS2_ := (hb.cell (World.block_lt_of_cell? _ _ (hHeld.2.2.1))).trans (hHeld.2.2.1)
            have HS3_ := (hb.cell (World.block_lt_of_cell? _ _ (hHeld.2.2.2))).trans (hHeld.2.2.2)
            have n0_ := Aside0.mk (Kd.R_below (Kd.R_elderB (kr_ HO_3) gb529 (Nat.le_of_eq hg.symm)) hb)
            have n1_ := Aside0.mk (blk_below (g := gb512) (o := .cells #[.int .i64 t509, .int .i64 t510] 30 (0, 0)) (bk_ BK512) hb)
            have n2_ := Aside0.mk (blk_below (g := gb516) (o := .cells #[.int .i64 t513, .int .i64 t514] 30 (0, 0)) (bk_ BK516) hb)
            have n3_ := Aside0.mk (blk_below (g := gb517) (o := .cells #[.int .i64 1000000, .int .i64 1000000] 30 (0, 0)) (bk_ BK517) hb)
            have n4_ := Aside0.mk (below_step (bl_ HB) hb)
            have n5_ := Aside0.mk (hbox)
            have n6_ := Aside0.mk ((by rw [hg]; exact (below_size (bl_ HB)) : w.heap.size ≤ gb529))
            have n7_ := Aside0.mk ((by rw [hg]; exact (below_size (bl_ HB)) : w.heap.size ≤ gb529))
            have n8_ := Aside0.mk ((by rw [hg]; exact Nat.ne_of_lt (blk_lt (g := gb512) (o := .cells #[.int .i64 t509, .int .i64 t510] 30 (0, 0)) (bk_ BK512)) : gb512 ≠ gb529))
            have n9_ := Aside0.mk ((by rw [hg]; exact Nat.ne_of_gt (blk_lt (g := gb512) (o := .cells #[.int .i64 t509, .int .i64 t510] 30 (0, 0)) (bk_ BK512)) : gb529 ≠ gb512))
            have n10_ := Aside0.mk ((by rw [hg]; exact Nat.ne_of_lt (blk_lt (g := gb516) (o := .cells #[.int .i64 t513, .int .i64 t514] 30 (0, 0)) (bk_ BK516)) : gb516 ≠ gb529))
            have n11_ := Aside0.mk ((by rw [hg]; exact Nat.ne_of_gt (blk_lt (g := gb516) (o := .cells #[.int .i64 t513, .int .i64 t514] 30 (0, 0)) (bk_ BK516)) : gb529 ≠ gb516))
            have n12_ := Aside0.mk ((by rw [hg]; exact Nat.ne_of_lt (blk_lt (g := gb517) (o := .cells #[.int .i64 1000000, .int .i64 1000000] 30 (0, 0)) (bk_ BK517)) : gb517 ≠ gb529))
            have n13_ := Aside0.mk ((by rw [hg]; exact Nat.ne_of_gt (blk_lt (g := gb517) (o := .cells #[.int .i64 1000000, .int .i64 1000000] 30 (0, 0)) (bk_ BK517)) : gb529 ≠ gb517))
            clear HO_3
            clear BK512
            clear BK516
            clear BK517
            clear HB
            have HO_3 := n0_
            have BK512 := n1_
            have BK516 := n2_
            have BK517 := n3_
            have HB := n4_
            have BK529 := n5_
            have GW529 := n6_
            have GE529 := n7_
            have NB512_529 := n8_
            have NB529_512 := n9_
            have NB516_529 := n10_
            have NB529_516 := n11_
            have NB517_529 := n12_
            have NB529_517 := n13_
            clear n0_ n1_ n2_ n3_ n4_ n5_ n6_ n7_ n8_ n9_ n10_ n11_ n12_ n13_
            clear hb hbox hg
            refine hK.out _ _ ⟨(blk_cell BK512.out 0).trans rfl, (blk_cell BK512.out 1).trans rfl, HS2_, HS3_⟩ (fun hHeld => ?_)
            clear hK K
            refine norm_ (a' := ?_) ?_ ?_
            rotate_left
            ·
             show Act.put _ (some 10) _ = _
             simp only [Act.put, sa_, sb_, sc_, i64_w, i32_w]
             rfl
            refine one_ (i := 11) (N := some 72) #[true, true, true, true, true, true, true, true, true, true, true, true, false, false, false, true, false, false] rfl rfl (one_of HT_.out (by kernel_rfl)) (by decide) (fun K hK => ?_)
            refine goes_ Tryd.func21 (by kernel_rfl) rfl #[.agg #[.int .i64 (wrap64 (t509 + 1000000)), .int .i64 (wrap64 (t510 + 1000000))], .agg #[.int .i64 ((rd_T30 t505 t506).f0), .int .i64 ((rd_T30 t505 t506).f1)]] (by rfl) rfl rfl (by (try simp only [List.map_toArray, List.map_cons, List.map_nil]); first | done | rfl | (simp only [List.length_drop, List.length_take]; rfl)) ?_
            with_reducible refine (impl_MulRange.calls (wrap64 (t509 + 1000000)) (wrap64 (t510 + 1000000)) ((rd_T30 t505 t506).f0) ((rd_T30 t505 t506).f1) t526 t527 true _ ?side1 A94.out).mono ?_
            (case side1 => first | exact HTab.out | exact Tab.below HTab.out (bl_ HB))
            rintro e w105 ⟨rfl, hb⟩
            have HS2_ := (hb.cell (World.block_lt_of_cell? _ _ (hHeld.2.2.1))).trans (hHeld.2.2.1)
            have HS3_ := (hb.cell (World.block_lt_of_cell? _ _ (hHeld.2.2.2))).trans (hHeld.2.2.2)
            refine ⟨_, rfl, ?_⟩
            have n0_ := Aside0.mk (Kd.R_below (kr_ HO_3) hb)
            have n1_ := Aside0.mk (blk_below (g := gb512) (o := .cells #[.int .i64 t509, .int .i64 t510] 30 (0, 0)) (bk_ BK512) hb)
            have n2_ := Aside0.mk (blk_below (g := gb516) (o := .cells #[.int .i64 t513, .int .i64 t514] 30 (0, 0)) (bk_ BK516) hb)
            have n3_ := Aside0.mk (blk_below (g := gb517) (o := .cells #[.int .i64 1000000, .int .i64 1000000] 30 (0, 0)) (bk_ BK517) hb)
            have n4_ := Aside0.mk (blk_below (g := gb529) (o := .cells #[.int .i64 0, .int .i64 0] 30 (0, 0)) (bk_ BK529) hb)
            have n5_ := Aside0.mk (below_step (bl_ HB) hb)
            clear HO_3
            clear BK512
            clear BK516
            clear BK517
            clear BK529
            clear HB
            have HO_3 := n0_
            have BK512 := n1_
            have BK516 := n2_
            have BK517 := n3_
            have BK529 := n4_
            have HB := n5_
            clear n0_ n1_ n2_ n3_ n4_ n5_
            (try clear hb)
            (try clear hb2)
            (try clear hk)
            (try clear hi)
            refine hK.out _ _ ⟨(blk_cell BK512.out 0).trans rfl, (blk_cell BK512.out 1).trans rfl, HS2_, HS3_⟩ (fun hHeld => ?_)
            clear hK K
            refine norm_ (a' := ?_) ?_ ?_
            rotate_left
            ·
             show Act.put _ (some 72) _ = _
             simp only [Act.put, sa_, sb_, sc_, i64_w, i32_w]
             rfl
            refine pure_ (i := 12) (N := some 60) (v := ?_) (a' := ?_) #[true, true, true, true, true, true, true, true, true, true, true, true, true, false, false, true, false, false] rfl rfl (any_of HT_.out (by kernel_rfl)) (fun _ _ _ h => h) (Or.inl ⟨by rfl, ?_⟩) ?_ ?_
            rotate_left
            ·
             intro w'
             go_simp
             with_reducible rfl
            rotate_left
            ·
             simp only [Act.put, sa_, sb_, sc_, i64_w, i32_w]
             rfl
            refine pure_ (i := 13) (N := some 73) (v := ?_) (a' := ?_) #[true, true, true, true, true, true, true, true, true, true, true, true, true, true, false, true, false, false] rfl rfl (any_of HT_.out (by kernel_rfl)) (fun _ _ _ h => h) (Or.inl ⟨by rfl, ?_⟩) ?_ ?_
            rotate_left
            ·
             intro w'
             go_simp
             with_reducible rfl
            rotate_left
            ·
             simp only [Act.put, sa_, sb_, sc_, i64_w, i32_w]
             rfl
            refine pure_ (i := 14) (N := some 74) (v := ?_) (a' := ?_) #[true, true, true, true, true, true, true, true, true, true, true, true, true, true, true, true, false, false] rfl rfl (any_of HT_.out (by kernel_rfl)) (fun _ _ _ h => h) (Or.inl ⟨by rfl, ?_⟩) ?_ ?_
            rotate_left
            ·
             intro w'
             go_simp
             with_reducible rfl
            rotate_left
            ·
             simp only [Act.put, sa_, sb_, sc_, i64_w, i32_w]
             rfl
            exact norm_ (by simp only [putAll, Act.put, sa_, sb_, sc_]) (hCont (gb529) _ ⟨hHeld, (by (with_reducible repeat (first | apply Kd.R_alloc | apply Kd.R_drewN | apply Kd.R_drew)); exact Kd.R_mono HO_3.out (fun _ hk => ⟨hk.1.1, ⟨hk.1.2.1, ⟨hk.1.2.2, hk.2⟩⟩⟩)), (bk_ BK512), (bk_ BK516), (bk_ BK517), (bk_ BK529), GW529.out, GE529.out, NB512_529.out, NB529_512.out, NB516_529.out, NB529_516.out, NB517_529.out, NB529_517.out, (bl_ HB)⟩)
          rintro gb529 w106 ⟨hS_, h0_, h1_, h2_, h3_, h4_, h5_, h6_, h7_, h8_, h9_, h10_, h11_, h12_, h13_⟩
          have n0_ : Aside0 (Kd.R k30 30 w106 w.heap.size (fun k_ => k_ ≠ gb512 ∧ k_ ≠ gb516 ∧ k_ ≠ gb517 ∧ k_ ≠ gb529) (.slice (some ad525) t505.length co8) t505) := ⟨h0_⟩
          have n1_ : Aside0 (w106.heap[gb512]? = some (.cells #[.int .i64 t509, .int .i64 t510] 30 (0, 0))) := ⟨h1_⟩
          have n2_ : Aside0 (w106.heap[gb516]? = some (.cells #[.int .i64 t513, .int .i64 t514] 30 (0, 0))) := ⟨h2_⟩
          have n3_ : Aside0 (w106.heap[gb517]? = some (.cells #[.int .i64 1000000, .int .i64 1000000] 30 (0, 0))) := ⟨h3_⟩
          have n4_ : Aside0 (w106.heap[gb529]? = some (.cells #[.int .i64 0, .int .i64 0] 30 (0, 0))) := ⟨h4_⟩
          have n5_ : Aside0 (w.heap.size ≤ gb529) := ⟨h5_⟩
          have n6_ : Aside0 (w.heap.size ≤ gb529) := ⟨h6_⟩
          have n7_ : Aside0 (gb512 ≠ gb529) := ⟨h7_⟩
          have n8_ : Aside0 (gb529 ≠ gb512) := ⟨h8_⟩
          have n9_ : Aside0 (gb516 ≠ gb529) := ⟨h9_⟩
          have n10_ : Aside0 (gb529 ≠ gb516) := ⟨h10_⟩
          have n11_ : Aside0 (gb517 ≠ gb529) := ⟨h11_⟩
          have n12_ : Aside0 (gb529 ≠ gb517) := ⟨h12_⟩
          have n13_ : Aside0 (Below w.heap.size w w106) := ⟨h13_⟩
          clear HO_3
          clear BK512
          clear BK516
          clear BK517
          clear HB
          clear h0_ h1_ h2_ h3_ h4_ h5_ h6_ h7_ h8_ h9_ h10_ h11_ h12_ h13_
          have HO_3 := n0_
          have BK512 := n1_
          have BK516 := n2_
          have BK517 := n3_
          have BK529 := n4_
          have GW529 := n5_
          have GE529 := n6_
          have NB512_529 := n7_
          have NB529_512 := n8_
          have NB516_529 := n9_
          have NB529_516 := n10_
          have NB517_529 := n11_
          have NB529_517 := n12_
          have HB := n13_
          clear n0_ n1_ n2_ n3_ n4_ n5_ n6_ n7_ n8_ n9_ n10_ n11_ n12_ n13_
          have hHeld : w106.cell? ⟨gb512, 0, none⟩ = some (.int .i64 t509) ∧ w106.cell? ⟨gb512, 1, none⟩ = some (.int .i64 t510) ∧ w106.cell? (ad525.add ((t506).toNat * 2)) = some (.int .i64 ((rd_T30 t505 t506).f0)) ∧ w106.cell? ⟨(ad525.add ((t506).toNat * 2)).block, (ad525.add ((t506).toNat * 2)).off + 1, none⟩ = some (.int .i64 ((rd_T30 t505 t506).f1)) := hS_
          refine norm_ (a' := ?_) ?_ ?_
          rotate_left
          ·
           simp only [putAll, Act.put, sa_, sb_, sc_]
           rfl
          refine one_ (i := 16) (N := none) #[true, true, true, true, true, true, true, true, true, true, true, true, true, true, true, true, true, false] rfl rfl (one_of HT_.out (by kernel_rfl)) (by decide) (fun K hK => ?_)
          have hs107 : w106.cell? ⟨gb529, 0, none⟩ = some (.int .i64 0) := (blk_cell BK529.out 0).trans rfl
          have hfs107 := blk_frozen BK529.out 0
          have hns107_0 := NB512_529.out
          have hns107_1 := NB516_529.out
          have hns107_2 := NB517_529.out
          have hms107_0 := NB529_512.out
          have hms107_1 := NB529_516.out
          have hms107_2 := NB529_517.out
          have hs108 : w106.cell? ⟨gb529, 1, none⟩ = some (.int .i64 0) := (blk_cell BK529.out 1).trans rfl
          have hfs108 := blk_frozen BK529.out 1
          have hns108_0 := NB512_529.out
          have hns108_1 := NB516_529.out
          have hns108_2 := NB517_529.out
          have hms108_0 := NB529_512.out
          have hms108_1 := NB529_516.out
          have hms108_2 := NB529_517.out
          refine skip_ (w1 := ?_) (by rfl) rfl ?_ ?_
          rotate_left
          ·
           go_simp
           rfl
          refine hK.out _ _ ⟨((cell_far (p := ⟨gb529, _, none⟩) NB512_529.out _).trans (((cell_far (p := ⟨gb529, _, none⟩) NB512_529.out _).trans (hHeld.1)))), ((cell_far (p := ⟨gb529, _, none⟩) NB512_529.out _).trans (((cell_far (p := ⟨gb529, _, none⟩) NB512_529.out _).trans (hHeld.2.1)))), ((cell_far (p := ⟨gb529, _, none⟩) (by first | exact Kd.own_blk (Kd.R_away HO_3.out (fun _ hk => hk.2.2.2)) | (rw [add_block]; exact Kd.own_blk (Kd.R_away HO_3.out (fun _ hk => hk.2.2.2))) | (show (Addr.add _ _).block ≠ _; rw [add_block]; exact Kd.own_blk (Kd.R_away HO_3.out (fun _ hk => hk.2.2.2))) | (dsimp only; exact Kd.own_blk (Kd.R_away HO_3.out (fun _ hk => hk.2.2.2)))) _).trans (((cell_far (p := ⟨gb529, _, none⟩) (by first | exact Kd.own_blk (Kd.R_away HO_3.out (fun _ hk => hk.2.2.2)) | (rw [add_block]; exact Kd.own_blk (Kd.R_away HO_3.out (fun _ hk => hk.2.2.2))) | (show (Addr.add _ _).block ≠ _; rw [add_block]; exact Kd.own_blk (Kd.R_away HO_3.out (fun _ hk => hk.2.2.2))) | (dsimp only; exact Kd.own_blk (Kd.R_away HO_3.out (fun _ hk => hk.2.2.2)))) _).trans (hHeld.2.2.1)))), ((cell_far (p := ⟨gb529, _, none⟩) (by first | exact Kd.own_blk (Kd.R_away HO_3.out (fun _ hk => hk.2.2.2)) | (rw [add_block]; exact Kd.own_blk (Kd.R_away HO_3.out (fun _ hk => hk.2.2.2))) | (show (Addr.add _ _).block ≠ _; rw [add_block]; exact Kd.own_blk (Kd.R_away HO_3.out (fun _ hk => hk.2.2.2))) | (dsimp only; exact Kd.own_blk (Kd.R_away HO_3.out (fun _ hk => hk.2.2.2)))) _).trans (((cell_far (p := ⟨gb529, _, none⟩) (by first | exact Kd.own_blk (Kd.R_away HO_3.out (fun _ hk => hk.2.2.2)) | (rw [add_block]; exact Kd.own_blk (Kd.R_away HO_3.out (fun _ hk => hk.2.2.2))) | (show (Addr.add _ _).block ≠ _; rw [add_block]; exact Kd.own_blk (Kd.R_away HO_3.out (fun _ hk => hk.2.2.2))) | (dsimp only; exact Kd.own_blk (Kd.R_away HO_3.out (fun _ hk => hk.2.2.2)))) _).trans (hHeld.2.2.2))))⟩ (fun hHeld => ?_)
          clear hK K
          refine pure_ (i := 17) (N := some 11) (v := ?_) (a' := ?_) #[true, true, true, true, true, true, true, true, true, true, true, true, true, true, true, true, true, true] rfl rfl (any_of HT_.out (by kernel_rfl)) (fun _ _ _ h => h) (Or.inl ⟨by rfl, ?_⟩) ?_ ?_
          rotate_left
          ·
           intro w'
           go_simp
           with_reducible rfl
          rotate_left
          ·
           simp only [Act.put, sa_, sb_, sc_, i64_w, i32_w]
           rfl
          refine done_ (done_of HT_.out (by kernel_rfl)) ?_
          have hnb109 := NB512_516.out
          have hnc109 := NB516_512.out
          have hnb110 := NB512_529.out
          have hnc110 := NB529_512.out
          have hcz111_0 : w106.cell? ⟨gb512, 0, none⟩ = some (.int .i64 t509) := (blk_cell BK512.out 0).trans rfl
          have hcz111_1 : w106.cell? ⟨gb512, 1, none⟩ = some (.int .i64 t510) := (blk_cell BK512.out 1).trans rfl
          have hfz111_0 := blk_frozen BK512.out 0
          have hfz111_1 := blk_frozen BK512.out 1
          have hnb112 := NB517_529.out
          have hnc112 := NB529_517.out
          have hcz113_0 : w106.cell? ⟨gb517, 0, none⟩ = some (.int .i64 1000000) := (blk_cell BK517.out 0).trans rfl
          have hcz113_1 : w106.cell? ⟨gb517, 1, none⟩ = some (.int .i64 1000000) := (blk_cell BK517.out 1).trans rfl
          have hfz113_0 := blk_frozen BK517.out 0
          have hfz113_1 := blk_frozen BK517.out 1
          have hnb114 := NB529_516.out
          have hnc114 := NB516_529.out
          have hcz115_0 : w106.cell? ⟨gb529, 0, none⟩ = some (.int .i64 0) := (blk_cell BK529.out 0).trans rfl
          have hcz115_1 : w106.cell? ⟨gb529, 1, none⟩ = some (.int .i64 0) := (blk_cell BK529.out 1).trans rfl
          have hfz115_0 := blk_frozen BK529.out 0
          have hfz115_1 := blk_frozen BK529.out 1
          try go_wp2_with (first | (go_at_call 22; (with_reducible refine (laws_within.calls 1000000 1000000 t526 t527 t530 _ A97.out).mono ?_); rintro e w116 ⟨rfl, hb⟩; have n0_ := Aside0.mk (Kd.R_below (by (with_reducible repeat (first | apply Kd.R_alloc | apply Kd.R_drewN | apply Kd.R_drew)); exact (Kd.R_mono (Kd.R_far (p := ⟨gb529, 1, none⟩) (Kd.R_far (p := ⟨gb529, 0, none⟩) (Kd.R_mono HO_3.out (fun k_ hk => (⟨hk, hk.2.2.2⟩ : _ ∧ k_ ≠ gb529))) (fun _ hk => hk.2) (.int .i64 t526)) (fun _ hk => hk.2) (.int .i64 t527)) (fun _ h_ => h_.1))) hb); have n1_ := Aside0.mk (blk_below (g := gb512) (o := .cells #[.int .i64 t509, .int .i64 t510] 30 (0, 0)) (by (with_reducible repeat (first | refine blk_drewN ?_ _ | refine blk_drew ?_ | refine blk_alloc ?_ _)); refine blk_far ?_ NB512_529.out _; (with_reducible repeat (first | refine blk_drewN ?_ _ | refine blk_drew ?_ | refine blk_alloc ?_ _)); refine blk_far ?_ NB512_529.out _; (with_reducible repeat (first | refine blk_drewN ?_ _ | refine blk_drew ?_ | refine blk_alloc ?_ _)); exact BK512.out) hb); have n2_ := Aside0.mk (blk_below (g := gb516) (o := .cells #[.int .i64 t513, .int .i64 t514] 30 (0, 0)) (by (with_reducible repeat (first | refine blk_drewN ?_ _ | refine blk_drew ?_ | refine blk_alloc ?_ _)); refine blk_far ?_ NB516_529.out _; (with_reducible repeat (first | refine blk_drewN ?_ _ | refine blk_drew ?_ | refine blk_alloc ?_ _)); refine blk_far ?_ NB516_529.out _; (with_reducible repeat (first | refine blk_drewN ?_ _ | refine blk_drew ?_ | refine blk_alloc ?_ _)); exact BK516.out) hb); have n3_ := Aside0.mk (blk_below (g := gb517) (o := .cells #[.int .i64 1000000, .int .i64 1000000] 30 (0, 0)) (by (with_reducible repeat (first | refine blk_drewN ?_ _ | refine blk_drew ?_ | refine blk_alloc ?_ _)); refine blk_far ?_ NB517_529.out _; (with_reducible repeat (first | refine blk_drewN ?_ _ | refine blk_drew ?_ | refine blk_alloc ?_ _)); refine blk_far ?_ NB517_529.out _; (with_reducible repeat (first | refine blk_drewN ?_ _ | refine blk_drew ?_ | refine blk_alloc ?_ _)); exact BK517.out) hb); have n4_ := Aside0.mk (blk_below (g := gb529) (o := .cells #[.int .i64 t526, .int .i64 t527] 30 (0, 0)) (by (with_reducible repeat (first | refine blk_drewN ?_ _ | refine blk_drew ?_ | refine blk_alloc ?_ _)); refine blk_put (cs := #[.int .i64 t526, .int .i64 0]) ?_ 1 _ rfl; (with_reducible repeat (first | refine blk_drewN ?_ _ | refine blk_drew ?_ | refine blk_alloc ?_ _)); refine blk_put (cs := #[.int .i64 0, .int .i64 0]) ?_ 0 _ rfl; (with_reducible repeat (first | refine blk_drewN ?_ _ | refine blk_drew ?_ | refine blk_alloc ?_ _)); exact BK529.out) hb); have n5_ := Aside0.mk (below_step (bl_ HB) hb); clear HO_3; clear BK512; clear BK516; clear BK517; clear BK529; clear HB; have HO_3 := n0_; have BK512 := n1_; have BK516 := n2_; have BK517 := n3_; have BK529 := n4_; have HB := n5_; clear n0_ n1_ n2_ n3_ n4_ n5_; (try clear hb); (try clear hb2); (try clear hk); (try clear hi)))
          go_ret
          exact ⟨by first | rfl | (simp [errW_none, errW_some] <;> rfl) | (simp [*, errW_none, errW_some] <;> rfl), by repeat (first | (with_reducible first | exact HB.out | apply below_alloc | apply pw_below_drewN | apply below_drew1 | refine below_set ?_ GE512.out | refine below_set ?_ GE516.out | refine below_set ?_ GE517.out | refine below_set ?_ GE529.out) | exact HB.out)⟩
         ·
          replace c96 := Bool.eq_false_iff.mpr c96
          subst c96
          have H1 : (some true) = some r := by rw [if_neg (show ¬ (false = true) by decide)] at H; exact H
          clear H
          have H := H1
          clear H1
          obtain rfl := Option.some.inj H
          try go_wp2_with (first | ((with_reducible refine gate_dst (N := 9) rfl ?_); refine box_event ?hg (N := 9) ?hd (cs := #[.int .i64 0, .int .i64 0]) (t := 30) ?hr ?_; (case hd => rfl); (case hg => rfl); (case hr => first | (go_simp; done) | (go_simp; rfl)); intro gb517 hg w117 hbox hb; have n0_ := Aside0.mk (Kd.R_below (Kd.R_elderB (kr_ HO_3) gb517 (Nat.le_of_eq hg.symm)) hb); have n1_ := Aside0.mk (blk_below (g := gb512) (o := .cells #[.int .i64 t509, .int .i64 t510] 30 (0, 0)) (bk_ BK512) hb); have n2_ := Aside0.mk (blk_below (g := gb516) (o := .cells #[.int .i64 t513, .int .i64 t514] 30 (0, 0)) (bk_ BK516) hb); have n3_ := Aside0.mk (below_step (bl_ HB) hb); have n4_ := Aside0.mk (hbox); have n5_ := Aside0.mk ((by rw [hg]; exact (below_size (bl_ HB)) : w.heap.size ≤ gb517)); have n6_ := Aside0.mk ((by rw [hg]; exact (below_size (bl_ HB)) : w.heap.size ≤ gb517)); have n7_ := Aside0.mk ((by rw [hg]; exact Nat.ne_of_lt (blk_lt (g := gb512) (o := .cells #[.int .i64 t509, .int .i64 t510] 30 (0, 0)) (bk_ BK512)) : gb512 ≠ gb517)); have n8_ := Aside0.mk ((by rw [hg]; exact Nat.ne_of_gt (blk_lt (g := gb512) (o := .cells #[.int .i64 t509, .int .i64 t510] 30 (0, 0)) (bk_ BK512)) : gb517 ≠ gb512)); have n9_ := Aside0.mk ((by rw [hg]; exact Nat.ne_of_lt (blk_lt (g := gb516) (o := .cells #[.int .i64 t513, .int .i64 t514] 30 (0, 0)) (bk_ BK516)) : gb516 ≠ gb517)); have n10_ := Aside0.mk ((by rw [hg]; exact Nat.ne_of_gt (blk_lt (g := gb516) (o := .cells #[.int .i64 t513, .int .i64 t514] 30 (0, 0)) (bk_ BK516)) : gb517 ≠ gb516)); clear HO_3; clear BK512; clear BK516; clear HB; have HO_3 := n0_; have BK512 := n1_; have BK516 := n2_; have HB := n3_; have BK517 := n4_; have GW517 := n5_; have GE517 := n6_; have NB512_517 := n7_; have NB517_512 := n8_; have NB516_517 := n9_; have NB517_516 := n10_; clear n0_ n1_ n2_ n3_ n4_ n5_ n6_ n7_ n8_ n9_ n10_; clear hb hbox hg; have hnb118 := NB517_512.out; have hnc118 := NB512_517.out; have hnb119 := NB517_516.out; have hnc119 := NB516_517.out; have hcz120_0 : w117.cell? ⟨gb517, 0, none⟩ = some (.int .i64 0) := (blk_cell BK517.out 0).trans rfl; have hcz120_1 : w117.cell? ⟨gb517, 1, none⟩ = some (.int .i64 0) := (blk_cell BK517.out 1).trans rfl; have hfz120_0 := blk_frozen BK517.out 0; have hfz120_1 := blk_frozen BK517.out 1))
          have n0_ : Aside0 (Kd.R k30 30 ((w117.setCell ⟨gb517, 0, none⟩ (.int .i64 1000000)).setCell ⟨gb517, 1, none⟩ (.int .i64 1000000)) w.heap.size (fun k_ => k_ ≠ gb512 ∧ k_ ≠ gb516 ∧ k_ ≠ gb517) (.slice Ao8 t505.length co8) t505) := ⟨by (with_reducible repeat (first | apply Kd.R_alloc | apply Kd.R_drewN | apply Kd.R_drew)); exact Kd.R_mono (Kd.R_far (p := ⟨gb517, 1, none⟩) (Kd.R_far (p := ⟨gb517, 0, none⟩) (Kd.R_mono HO_3.out (fun k_ hk => (⟨hk, hk.2⟩ : _ ∧ k_ ≠ gb517))) (fun _ hk => hk.2) (.int .i64 1000000)) (fun _ hk => hk.2) (.int .i64 1000000)) (fun _ hk => ⟨hk.1.1.1, ⟨hk.1.1.2, hk.1.2⟩⟩)⟩
          have n1_ : Aside0 (((w117.setCell ⟨gb517, 0, none⟩ (.int .i64 1000000)).setCell ⟨gb517, 1, none⟩ (.int .i64 1000000)).heap[gb512]? = some (.cells #[.int .i64 t509, .int .i64 t510] 30 (0, 0))) := ⟨by (with_reducible repeat (first | refine blk_drewN ?_ _ | refine blk_drew ?_ | refine blk_alloc ?_ _)); refine blk_far ?_ NB512_517.out _; (with_reducible repeat (first | refine blk_drewN ?_ _ | refine blk_drew ?_ | refine blk_alloc ?_ _)); refine blk_far ?_ NB512_517.out _; (with_reducible repeat (first | refine blk_drewN ?_ _ | refine blk_drew ?_ | refine blk_alloc ?_ _)); exact BK512.out⟩
          have n2_ : Aside0 (((w117.setCell ⟨gb517, 0, none⟩ (.int .i64 1000000)).setCell ⟨gb517, 1, none⟩ (.int .i64 1000000)).heap[gb516]? = some (.cells #[.int .i64 t513, .int .i64 t514] 30 (0, 0))) := ⟨by (with_reducible repeat (first | refine blk_drewN ?_ _ | refine blk_drew ?_ | refine blk_alloc ?_ _)); refine blk_far ?_ NB516_517.out _; (with_reducible repeat (first | refine blk_drewN ?_ _ | refine blk_drew ?_ | refine blk_alloc ?_ _)); refine blk_far ?_ NB516_517.out _; (with_reducible repeat (first | refine blk_drewN ?_ _ | refine blk_drew ?_ | refine blk_alloc ?_ _)); exact BK516.out⟩
          have n3_ : Aside0 (((w117.setCell ⟨gb517, 0, none⟩ (.int .i64 1000000)).setCell ⟨gb517, 1, none⟩ (.int .i64 1000000)).heap[gb517]? = some (.cells #[.int .i64 1000000, .int .i64 1000000] 30 (0, 0))) := ⟨by (with_reducible repeat (first | refine blk_drewN ?_ _ | refine blk_drew ?_ | refine blk_alloc ?_ _)); refine blk_put (cs := #[.int .i64 1000000, .int .i64 0]) ?_ 1 _ rfl; (with_reducible repeat (first | refine blk_drewN ?_ _ | refine blk_drew ?_ | refine blk_alloc ?_ _)); refine blk_put (cs := #[.int .i64 0, .int .i64 0]) ?_ 0 _ rfl; (with_reducible repeat (first | refine blk_drewN ?_ _ | refine blk_drew ?_ | refine blk_alloc ?_ _)); exact BK517.out⟩
          have n4_ : Aside0 (Below w.heap.size w ((w117.setCell ⟨gb517, 0, none⟩ (.int .i64 1000000)).setCell ⟨gb517, 1, none⟩ (.int .i64 1000000))) := ⟨by repeat (first | (with_reducible first | exact HB.out | apply below_alloc | apply pw_below_drewN | apply below_drew1 | refine below_set ?_ GE512.out | refine below_set ?_ GE516.out | refine below_set ?_ GE517.out) | exact HB.out)⟩
          (try clear HO_3)
          (try clear BK512)
          (try clear BK516)
          (try clear BK517)
          (try clear HB)
          generalize ((w117.setCell ⟨gb517, 0, none⟩ (.int .i64 1000000)).setCell ⟨gb517, 1, none⟩ (.int .i64 1000000)) = w121 at n0_ n1_ n2_ n3_ n4_ ⊢
          have HO_3 := n0_
          have BK512 := n1_
          have BK516 := n2_
          have BK517 := n3_
          have HB := n4_
          clear n0_ n1_ n2_ n3_ n4_
          have n0_ := Aside0.mk (Kd.R_drew HO_3.out)
          have n1_ := Aside0.mk (blk_drew BK512.out)
          have n2_ := Aside0.mk (blk_drew BK516.out)
          have n3_ := Aside0.mk (blk_drew BK517.out)
          have n4_ := Aside0.mk (below_drew1 HB.out)
          clear HO_3
          clear BK512
          clear BK516
          clear BK517
          clear HB
          have HO_3 := n0_
          have BK512 := n1_
          have BK516 := n2_
          have BK517 := n3_
          have HB := n4_
          clear n0_ n1_ n2_ n3_ n4_
          have p525 : 0 ≤ (t506 : Int) := of_decide_eq_true (by first | (with_reducible assumption) | assumption)
          have q525 : t506 < (t505.length : Int) := of_decide_eq_true (by first | (with_reducible assumption) | assumption)
          obtain ⟨ad525, e525, hx525_0, hx525_1⟩ := at_T30 (Kd.R_reads' HO_3.out).2.2 t506 p525 q525
          cases e525
          replace p525 := eq_true p525
          replace q525 := eq_true q525
          refine start_ (n := 18) (S := fun w' => w'.cell? ⟨gb512, 0, none⟩ = some (.int .i64 t509) ∧ w'.cell? ⟨gb512, 1, none⟩ = some (.int .i64 t510) ∧ w'.cell? (ad525.add ((t506).toNat * 2)) = some (.int .i64 ((rd_T30 t505 t506).f0)) ∧ w'.cell? ⟨(ad525.add ((t506).toNat * 2)).block, (ad525.add ((t506).toNat * 2)).off + 1, none⟩ = some (.int .i64 ((rd_T30 t505 t506).f1))) (ds := []) #[false, false, false, false, false, false, false, false, false, false, false, false, false, false, false, false, false, false] (by kernel_rfl) rfl rfl ⟨(blk_cell BK512.out 0).trans rfl, (blk_cell BK512.out 1).trans rfl, hx525_0, hx525_1⟩ (fun hHeld => ?_); refine with_tabW laws_FnForwardOf.tab11 laws_FnForwardOf.bits11 (fun HT_ HW_ => ?_)
          generalize w121.drew = w122 at HO_3 BK512 BK516 BK517 HB hx525_0 hx525_1 hHeld ⊢
          refine pure_ (i := 0) (N := some 61) (v := ?_) (a' := ?_) #[true, false, false, false, false, false, false, false, false, false, false, false, false, false, false, false, false, false] rfl rfl (any_of HT_.out (by kernel_rfl)) (fun _ _ _ h => h) (Or.inl ⟨by rfl, ?_⟩) ?_ ?_
          rotate_left
          ·
           intro w'
           go_simp
           with_reducible rfl
          rotate_left
          ·
           simp only [Act.put, sa_, sb_, sc_, i64_w, i32_w]
           rfl
          refine pure_ (i := 3) (N := some 64) (v := ?_) (a' := ?_) #[true, false, false, true, false, false, false, false, false, false, false, false, false, false, false, false, false, false] rfl rfl (any_of HT_.out (by kernel_rfl)) (fun _ _ _ h => h) (Or.inl ⟨by rfl, ?_⟩) ?_ ?_
          rotate_left
          ·
           intro w'
           go_simp
           with_reducible rfl
          rotate_left
          ·
           simp only [Act.put, sa_, sb_, sc_, i64_w, i32_w]
           rfl
          refine pure_ (i := 7) (N := some 68) (v := ?_) (a' := ?_) #[true, false, false, true, false, false, false, true, false, false, false, false, false, false, false, false, false, false] rfl rfl (any_of HT_.out (by kernel_rfl)) (fun _ _ _ h => h) (Or.inl ⟨by rfl, ?_⟩) ?_ ?_
          rotate_left
          ·
           intro w'
           go_simp
           with_reducible rfl
          rotate_left
          ·
           simp only [Act.put, sa_, sb_, sc_, i64_w, i32_w]
           rfl
          refine pure_ (i := 8) (N := some 69) (v := ?_) (a' := ?_) #[true, false, false, true, false, false, false, true, true, false, false, false, false, false, false, false, false, false] rfl rfl (any_of HT_.out (by kernel_rfl)) (fun _ _ _ h => h) (Or.inl ⟨by rfl, ?_⟩) ?_ ?_
          rotate_left
          ·
           intro w'
           go_simp
           with_reducible rfl
          rotate_left
          ·
           simp only [Act.put, sa_, sb_, sc_, i64_w, i32_w]
           rfl
          refine pure_ (i := 9) (N := some 70) (v := ?_) (a' := ?_) #[true, false, false, true, false, false, false, true, true, true, false, false, false, false, false, false, false, false] rfl rfl (any_of HT_.out (by kernel_rfl)) (fun _ _ _ h => h) (Or.inl ⟨by rfl, ?_⟩) ?_ ?_
          rotate_left
          ·
           intro w'
           go_simp
           with_reducible rfl
          rotate_left
          ·
           simp only [Act.put, sa_, sb_, sc_, i64_w, i32_w]
           rfl
          refine take_ (i := 1) (N := some 62) (v := ?_) (a' := ?_) #[true, true, false, true, false, false, false, true, true, true, false, false, false, false, false, false, false, false] rfl rfl (take_ofW HT_.out HW_.out (by kernel_rfl)) (fun _ _ _ h => h) (Or.inl ⟨by rfl, ?_⟩) hHeld ?_ ?_
          rotate_left
          ·
           rintro w' ⟨s0, s1, s2, s3⟩
           go_simp
           with_reducible rfl
          rotate_left
          ·
           simp only [Act.put, sa_, sb_, sc_, i64_w, i32_w]
           rfl
          refine pure_ (i := 2) (N := some 63) (v := ?_) (a' := ?_) #[true, true, true, true, false, false, false, true, true, true, false, false, false, false, false, false, false, false] rfl rfl (any_of HT_.out (by kernel_rfl)) (fun _ _ _ h => h) (Or.inl ⟨by rfl, ?_⟩) ?_ ?_
          rotate_left
          ·
           intro w'
           go_simp
           with_reducible rfl
          rotate_left
          ·
           simp only [Act.put, sa_, sb_, sc_, i64_w, i32_w]
           rfl
          refine take_ (i := 4) (N := some 65) (v := ?_) (a' := ?_) #[true, true, true, true, true, false, false, true, true, true, false, false, false, false, false, false, false, false] rfl rfl (take_ofW HT_.out HW_.out (by kernel_rfl)) (fun _ _ _ h => h) (Or.inl ⟨by rfl, ?_⟩) hHeld ?_ ?_
          rotate_left
          ·
           rintro w' ⟨s0, s1, s2, s3⟩
           go_simp
           with_reducible rfl
          rotate_left
          ·
           simp only [Act.put, sa_, sb_, sc_, i64_w, i32_w]
           rfl
          refine pure_ (i := 5) (N := some 66) (v := ?_) (a' := ?_) #[true, true, true, true, true, true, false, true, true, true, false, false, false, false, false, false, false, false] rfl rfl (any_of HT_.out (by kernel_rfl)) (fun _ _ _ h => h) (Or.inl ⟨by rfl, ?_⟩) ?_ ?_
          rotate_left
          ·
           intro w'
           go_simp
           with_reducible rfl
          rotate_left
          ·
           simp only [Act.put, sa_, sb_, sc_, i64_w, i32_w]
           rfl
          refine pure_ (i := 6) (N := some 67) (v := ?_) (a' := ?_) #[true, true, true, true, true, true, true, true, true, true, false, false, false, false, false, false, false, false] rfl rfl (any_of HT_.out (by kernel_rfl)) (fun _ _ _ h => h) (Or.inl ⟨by rfl, ?_⟩) ?_ ?_
          rotate_left
          ·
           intro w'
           go_simp
           with_reducible rfl
          rotate_left
          ·
           simp only [Act.put, sa_, sb_, sc_, i64_w, i32_w]
           rfl
          refine take_ (i := 10) (N := some 71) (v := ?_) (a' := ?_) #[true, true, true, true, true, true, true, true, true, true, true, false, false, false, false, false, false, false] rfl rfl (take_ofW HT_.out HW_.out (by kernel_rfl)) (fun _ _ _ h => h) (Or.inl ⟨by rfl, ?_⟩) hHeld ?_ ?_
          rotate_left
          ·
           rintro w' ⟨s0, s1, s2, s3⟩
           go_simp
           with_reducible rfl
          rotate_left
          ·
           simp only [Act.put, sa_, sb_, sc_, i64_w, i32_w]
           rfl
          refine join_ (σ := Nat) 2 #[true, true, true, true, true, true, true, true, true, true, true, true, true, true, true, true, false, false] (fun s_ => [(72, .tuple #[.agg #[.int .i64 t526, .int .i64 t527], .bool false]), (10, .pointer (some ⟨s_, 0, none⟩)), (60, .tuple #[.agg #[.int .i64 t526, .int .i64 t527], .bool false]), (73, .agg #[.int .i64 t526, .int .i64 t527]), (74, .bool false)]) (fun s_ w' => (w'.cell? ⟨gb512, 0, none⟩ = some (.int .i64 t509) ∧ w'.cell? ⟨gb512, 1, none⟩ = some (.int .i64 t510) ∧ w'.cell? (ad525.add ((t506).toNat * 2)) = some (.int .i64 ((rd_T30 t505 t506).f0)) ∧ w'.cell? ⟨(ad525.add ((t506).toNat * 2)).block, (ad525.add ((t506).toNat * 2)).off + 1, none⟩ = some (.int .i64 ((rd_T30 t505 t506).f1))) ∧ (Kd.R k30 30 w' w.heap.size (fun k_ => k_ ≠ gb512 ∧ k_ ≠ gb516 ∧ k_ ≠ gb517 ∧ k_ ≠ s_) (.slice (some ad525) t505.length co8) t505) ∧ (w'.heap[gb512]? = some (.cells #[.int .i64 t509, .int .i64 t510] 30 (0, 0))) ∧ (w'.heap[gb516]? = some (.cells #[.int .i64 t513, .int .i64 t514] 30 (0, 0))) ∧ (w'.heap[gb517]? = some (.cells #[.int .i64 1000000, .int .i64 1000000] 30 (0, 0))) ∧ (w'.heap[s_]? = some (.cells #[.int .i64 0, .int .i64 0] 30 (0, 0))) ∧ (w.heap.size ≤ s_) ∧ (w.heap.size ≤ s_) ∧ (gb512 ≠ s_) ∧ (s_ ≠ gb512) ∧ (gb516 ≠ s_) ∧ (s_ ≠ gb516) ∧ (gb517 ≠ s_) ∧ (s_ ≠ gb517) ∧ (Below w.heap.size w w')) ?_ ?_
          rotate_left
          ·
           intro hCont
           refine two_ (i := 11) (j := 15) (Ni := some 72) (Nj := some 10) #[true, true, true, true, true, true, true, true, true, true, true, true, false, false, false, false, false, false] #[true, true, true, true, true, true, true, true, true, true, true, false, false, false, false, true, false, false] rfl rfl rfl rfl (two_of HT_.out (by kernel_rfl)) (by decide) (by decide) (fun K hK => ?_) (fun K hK => ?_)
           ·
            skip
            refine goes_ Tryd.func21 (by kernel_rfl) rfl #[.agg #[.int .i64 (wrap64 (t509 + 1000000)), .int .i64 (wrap64 (t510 + 1000000))], .agg #[.int .i64 ((rd_T30 t505 t506).f0), .int .i64 ((rd_T30 t505 t506).f1)]] (by rfl) rfl rfl (by (try simp only [List.map_toArray, List.map_cons, List.map_nil]); first | done | rfl | (simp only [List.length_drop, List.length_take]; rfl)) ?_
            with_reducible refine (impl_MulRange.calls (wrap64 (t509 + 1000000)) (wrap64 (t510 + 1000000)) ((rd_T30 t505 t506).f0) ((rd_T30 t505 t506).f1) t526 t527 false _ ?side1 A94.out).mono ?_
            (case side1 => first | exact HTab.out | exact Tab.below HTab.out (bl_ HB))
            rintro e w123 ⟨rfl, hb⟩
            have HS2_ := (hb.cell (World.block_lt_of_cell? _ _ (hHeld.2.2.1))).trans (hHeld.2.2.1)
            have HS3_ := (hb.cell (World.block_lt_of_cell? _ _ (hHeld.2.2.2))).trans (hHeld.2.2.2)
            refine ⟨_, rfl, ?_⟩
            have n0_ := Aside0.mk (Kd.R_below (kr_ HO_3) hb)
            have n1_ := Aside0.mk (blk_below (g := gb512) (o := .cells #[.int .i64 t509, .int .i64 t510] 30 (0, 0)) (bk_ BK512) hb)
            have n2_ := Aside0.mk (blk_below (g := gb516) (o := .cells #[.int .i64 t513, .int .i64 t514] 30 (0, 0)) (bk_ BK516) hb)
            have n3_ := Aside0.mk (blk_below (g := gb517) (o := .cells #[.int .i64 1000000, .int .i64 1000000] 30 (0, 0)) (bk_ BK517) hb)
            have n4_ := Aside0.mk (below_step (bl_ HB) hb)
            clear HO_3
            clear BK512
            clear BK516
            clear BK517
            clear HB
            have HO_3 := n0_
            have BK512 := n1_
            have BK516 := n2_
            have BK517 := n3_
            have HB := n4_
            clear n0_ n1_ n2_ n3_ n4_
            (try clear hb)
            (try clear hb2)
            (try clear hk)
            (try clear hi)
            refine hK.out _ _ ⟨(blk_cell BK512.out 0).trans rfl, (blk_cell BK512.out 1).trans rfl, HS2_, HS3_⟩ (fun hHeld => ?_)
            clear hK K
            refine norm_ (a' := ?_) ?_ ?_
            rotate_left
            ·
             show Act.put _ (some 72) _ = _
             simp only [Act.put, sa_, sb_, sc_, i64_w, i32_w]
             rfl
            refine pure_ (i := 12) (N := some 60) (v := ?_) (a' := ?_) #[true, true, true, true, true, true, true, true, true, true, true, true, true, false, false, false, false, false] rfl rfl (any_of HT_.out (by kernel_rfl)) (fun _ _ _ h => h) (Or.inl ⟨by rfl, ?_⟩) ?_ ?_
            rotate_left
            ·
             intro w'
             go_simp
             with_reducible rfl
            rotate_left
            ·
             simp only [Act.put, sa_, sb_, sc_, i64_w, i32_w]
             rfl
            refine pure_ (i := 13) (N := some 73) (v := ?_) (a' := ?_) #[true, true, true, true, true, true, true, true, true, true, true, true, true, true, false, false, false, false] rfl rfl (any_of HT_.out (by kernel_rfl)) (fun _ _ _ h => h) (Or.inl ⟨by rfl, ?_⟩) ?_ ?_
            rotate_left
            ·
             intro w'
             go_simp
             with_reducible rfl
            rotate_left
            ·
             simp only [Act.put, sa_, sb_, sc_, i64_w, i32_w]
             rfl
            refine pure_ (i := 14) (N := some 74) (v := ?_) (a' := ?_) #[true, true, true, true, true, true, true, true, true, true, true, true, true, true, true, false, false, false] rfl rfl (any_of HT_.out (by kernel_rfl)) (fun _ _ _ h => h) (Or.inl ⟨by rfl, ?_⟩) ?_ ?_
            rotate_left
            ·
             intro w'
             go_simp
             with_reducible rfl
            rotate_left
            ·
             simp only [Act.put, sa_, sb_, sc_, i64_w, i32_w]
             rfl
            refine one_ (i := 15) (N := some 10) #[true, true, true, true, true, true, true, true, true, true, true, true, true, true, true, true, false, false] rfl rfl (one_of HT_.out (by kernel_rfl)) (by decide) (fun K hK => ?_)
            refine box_step ?hg (N := 10) ?hd (cs := #[.int .i64 0, .int .i64 0]) (t := 30) ?hr ?_; (case hd => rfl); (case hg => rfl); (case hr => first | (go_simp; done) | (go_simp; rfl))
            intro gb529 hg w124 hbox hb
            have HS2_ := (hb.cell (World.block_lt_of_cell? _ _ (hHeld.2.2.1))).trans (hHeld.2.2.1)
            have HS3_ := (hb.cell (World.block_lt_of_cell? _ _ (hHeld.2.2.2))).trans (hHeld.2.2.2)
            have n0_ := Aside0.mk (Kd.R_below (Kd.R_elderB (kr_ HO_3) gb529 (Nat.le_of_eq hg.symm)) hb)
            have n1_ := Aside0.mk (blk_below (g := gb512) (o := .cells #[.int .i64 t509, .int .i64 t510] 30 (0, 0)) (bk_ BK512) hb)
            have n2_ := Aside0.mk (blk_below (g := gb516) (o := .cells #[.int .i64 t513, .int .i64 t514] 30 (0, 0)) (bk_ BK516) hb)
            have n3_ := Aside0.mk (blk_below (g := gb517) (o := .cells #[.int .i64 1000000, .int .i64 1000000] 30 (0, 0)) (bk_ BK517) hb)
            have n4_ := Aside0.mk (below_step (bl_ HB) hb)
            have n5_ := Aside0.mk (hbox)
            have n6_ := Aside0.mk ((by rw [hg]; exact (below_size (bl_ HB)) : w.heap.size ≤ gb529))
            have n7_ := Aside0.mk ((by rw [hg]; exact (below_size (bl_ HB)) : w.heap.size ≤ gb529))
            have n8_ := Aside0.mk ((by rw [hg]; exact Nat.ne_of_lt (blk_lt (g := gb512) (o := .cells #[.int .i64 t509, .int .i64 t510] 30 (0, 0)) (bk_ BK512)) : gb512 ≠ gb529))
            have n9_ := Aside0.mk ((by rw [hg]; exact Nat.ne_of_gt (blk_lt (g := gb512) (o := .cells #[.int .i64 t509, .int .i64 t510] 30 (0, 0)) (bk_ BK512)) : gb529 ≠ gb512))
            have n10_ := Aside0.mk ((by rw [hg]; exact Nat.ne_of_lt (blk_lt (g := gb516) (o := .cells #[.int .i64 t513, .int .i64 t514] 30 (0, 0)) (bk_ BK516)) : gb516 ≠ gb529))
            have n11_ := Aside0.mk ((by rw [hg]; exact Nat.ne_of_gt (blk_lt (g := gb516) (o := .cells #[.int .i64 t513, .int .i64 t514] 30 (0, 0)) (bk_ BK516)) : gb529 ≠ gb516))
            have n12_ := Aside0.mk ((by rw [hg]; exact Nat.ne_of_lt (blk_lt (g := gb517) (o := .cells #[.int .i64 1000000, .int .i64 1000000] 30 (0, 0)) (bk_ BK517)) : gb517 ≠ gb529))
            have n13_ := Aside0.mk ((by rw [hg]; exact Nat.ne_of_gt (blk_lt (g := gb517) (o := .cells #[.int .i64 1000000, .int .i64 1000000] 30 (0, 0)) (bk_ BK517)) : gb529 ≠ gb517))
            clear HO_3
            clear BK512
            clear BK516
            clear BK517
            clear HB
            have HO_3 := n0_
            have BK512 := n1_
            have BK516 := n2_
            have BK517 := n3_
            have HB := n4_
            have BK529 := n5_
            have GW529 := n6_
            have GE529 := n7_
            have NB512_529 := n8_
            have NB529_512 := n9_
            have NB516_529 := n10_
            have NB529_516 := n11_
            have NB517_529 := n12_
            have NB529_517 := n13_
            clear n0_ n1_ n2_ n3_ n4_ n5_ n6_ n7_ n8_ n9_ n10_ n11_ n12_ n13_
            clear hb hbox hg
            refine hK.out _ _ ⟨(blk_cell BK512.out 0).trans rfl, (blk_cell BK512.out 1).trans rfl, HS2_, HS3_⟩ (fun hHeld => ?_)
            clear hK K
            refine norm_ (a' := ?_) ?_ ?_
            rotate_left
            ·
             show Act.put _ (some 10) _ = _
             simp only [Act.put, sa_, sb_, sc_, i64_w, i32_w]
             rfl
            exact norm_ (by simp only [putAll, Act.put, sa_, sb_, sc_]) (hCont (gb529) _ ⟨hHeld, (by (with_reducible repeat (first | apply Kd.R_alloc | apply Kd.R_drewN | apply Kd.R_drew)); exact Kd.R_mono HO_3.out (fun _ hk => ⟨hk.1.1, ⟨hk.1.2.1, ⟨hk.1.2.2, hk.2⟩⟩⟩)), (bk_ BK512), (bk_ BK516), (bk_ BK517), (bk_ BK529), GW529.out, GE529.out, NB512_529.out, NB529_512.out, NB516_529.out, NB529_516.out, NB517_529.out, NB529_517.out, (bl_ HB)⟩)
           ·
            skip
            refine box_step ?hg (N := 10) ?hd (cs := #[.int .i64 0, .int .i64 0]) (t := 30) ?hr ?_; (case hd => rfl); (case hg => rfl); (case hr => first | (go_simp; done) | (go_simp; rfl))
            intro gb529 hg w123 hbox hb
            have HS2_ := (hb.cell (World.block_lt_of_cell? _ _ (hHeld.2.2.1))).trans (hHeld.2.2.1)
            have HS3_ := (hb.cell (World.block_lt_of_cell? _ _ (hHeld.2.2.2))).trans (hHeld.2.2.2)
            have n0_ := Aside0.mk (Kd.R_below (Kd.R_elderB (kr_ HO_3) gb529 (Nat.le_of_eq hg.symm)) hb)
            have n1_ := Aside0.mk (blk_below (g := gb512) (o := .cells #[.int .i64 t509, .int .i64 t510] 30 (0, 0)) (bk_ BK512) hb)
            have n2_ := Aside0.mk (blk_below (g := gb516) (o := .cells #[.int .i64 t513, .int .i64 t514] 30 (0, 0)) (bk_ BK516) hb)
            have n3_ := Aside0.mk (blk_below (g := gb517) (o := .cells #[.int .i64 1000000, .int .i64 1000000] 30 (0, 0)) (bk_ BK517) hb)
            have n4_ := Aside0.mk (below_step (bl_ HB) hb)
            have n5_ := Aside0.mk (hbox)
            have n6_ := Aside0.mk ((by rw [hg]; exact (below_size (bl_ HB)) : w.heap.size ≤ gb529))
            have n7_ := Aside0.mk ((by rw [hg]; exact (below_size (bl_ HB)) : w.heap.size ≤ gb529))
            have n8_ := Aside0.mk ((by rw [hg]; exact Nat.ne_of_lt (blk_lt (g := gb512) (o := .cells #[.int .i64 t509, .int .i64 t510] 30 (0, 0)) (bk_ BK512)) : gb512 ≠ gb529))
            have n9_ := Aside0.mk ((by rw [hg]; exact Nat.ne_of_gt (blk_lt (g := gb512) (o := .cells #[.int .i64 t509, .int .i64 t510] 30 (0, 0)) (bk_ BK512)) : gb529 ≠ gb512))
            have n10_ := Aside0.mk ((by rw [hg]; exact Nat.ne_of_lt (blk_lt (g := gb516) (o := .cells #[.int .i64 t513, .int .i64 t514] 30 (0, 0)) (bk_ BK516)) : gb516 ≠ gb529))
            have n11_ := Aside0.mk ((by rw [hg]; exact Nat.ne_of_gt (blk_lt (g := gb516) (o := .cells #[.int .i64 t513, .int .i64 t514] 30 (0, 0)) (bk_ BK516)) : gb529 ≠ gb516))
            have n12_ := Aside0.mk ((by rw [hg]; exact Nat.ne_of_lt (blk_lt (g := gb517) (o := .cells #[.int .i64 1000000, .int .i64 1000000] 30 (0, 0)) (bk_ BK517)) : gb517 ≠ gb529))
            have n13_ := Aside0.mk ((by rw [hg]; exact Nat.ne_of_gt (blk_lt (g := gb517) (o := .cells #[.int .i64 1000000, .int .i64 1000000] 30 (0, 0)) (bk_ BK517)) : gb529 ≠ gb517))
            clear HO_3
            clear BK512
            clear BK516
            clear BK517
            clear HB
            have HO_3 := n0_
            have BK512 := n1_
            have BK516 := n2_
            have BK517 := n3_
            have HB := n4_
            have BK529 := n5_
            have GW529 := n6_
            have GE529 := n7_
            have NB512_529 := n8_
            have NB529_512 := n9_
            have NB516_529 := n10_
            have NB529_516 := n11_
            have NB517_529 := n12_
            have NB529_517 := n13_
            clear n0_ n1_ n2_ n3_ n4_ n5_ n6_ n7_ n8_ n9_ n10_ n11_ n12_ n13_
            clear hb hbox hg
            refine hK.out _ _ ⟨(blk_cell BK512.out 0).trans rfl, (blk_cell BK512.out 1).trans rfl, HS2_, HS3_⟩ (fun hHeld => ?_)
            clear hK K
            refine norm_ (a' := ?_) ?_ ?_
            rotate_left
            ·
             show Act.put _ (some 10) _ = _
             simp only [Act.put, sa_, sb_, sc_, i64_w, i32_w]
             rfl
            refine one_ (i := 11) (N := some 72) #[true, true, true, true, true, true, true, true, true, true, true, true, false, false, false, true, false, false] rfl rfl (one_of HT_.out (by kernel_rfl)) (by decide) (fun K hK => ?_)
            refine goes_ Tryd.func21 (by kernel_rfl) rfl #[.agg #[.int .i64 (wrap64 (t509 + 1000000)), .int .i64 (wrap64 (t510 + 1000000))], .agg #[.int .i64 ((rd_T30 t505 t506).f0), .int .i64 ((rd_T30 t505 t506).f1)]] (by rfl) rfl rfl (by (try simp only [List.map_toArray, List.map_cons, List.map_nil]); first | done | rfl | (simp only [List.length_drop, List.length_take]; rfl)) ?_
            with_reducible refine (impl_MulRange.calls (wrap64 (t509 + 1000000)) (wrap64 (t510 + 1000000)) ((rd_T30 t505 t506).f0) ((rd_T30 t505 t506).f1) t526 t527 false _ ?side1 A94.out).mono ?_
            (case side1 => first | exact HTab.out | exact Tab.below HTab.out (bl_ HB))
            rintro e w124 ⟨rfl, hb⟩
            have HS2_ := (hb.cell (World.block_lt_of_cell? _ _ (hHeld.2.2.1))).trans (hHeld.2.2.1)
            have HS3_ := (hb.cell (World.block_lt_of_cell? _ _ (hHeld.2.2.2))).trans (hHeld.2.2.2)
            refine ⟨_, rfl, ?_⟩
            have n0_ := Aside0.mk (Kd.R_below (kr_ HO_3) hb)
            have n1_ := Aside0.mk (blk_below (g := gb512) (o := .cells #[.int .i64 t509, .int .i64 t510] 30 (0, 0)) (bk_ BK512) hb)
            have n2_ := Aside0.mk (blk_below (g := gb516) (o := .cells #[.int .i64 t513, .int .i64 t514] 30 (0, 0)) (bk_ BK516) hb)
            have n3_ := Aside0.mk (blk_below (g := gb517) (o := .cells #[.int .i64 1000000, .int .i64 1000000] 30 (0, 0)) (bk_ BK517) hb)
            have n4_ := Aside0.mk (blk_below (g := gb529) (o := .cells #[.int .i64 0, .int .i64 0] 30 (0, 0)) (bk_ BK529) hb)
            have n5_ := Aside0.mk (below_step (bl_ HB) hb)
            clear HO_3
            clear BK512
            clear BK516
            clear BK517
            clear BK529
            clear HB
            have HO_3 := n0_
            have BK512 := n1_
            have BK516 := n2_
            have BK517 := n3_
            have BK529 := n4_
            have HB := n5_
            clear n0_ n1_ n2_ n3_ n4_ n5_
            (try clear hb)
            (try clear hb2)
            (try clear hk)
            (try clear hi)
            refine hK.out _ _ ⟨(blk_cell BK512.out 0).trans rfl, (blk_cell BK512.out 1).trans rfl, HS2_, HS3_⟩ (fun hHeld => ?_)
            clear hK K
            refine norm_ (a' := ?_) ?_ ?_
            rotate_left
            ·
             show Act.put _ (some 72) _ = _
             simp only [Act.put, sa_, sb_, sc_, i64_w, i32_w]
             rfl
            refine pure_ (i := 12) (N := some 60) (v := ?_) (a' := ?_) #[true, true, true, true, true, true, true, true, true, true, true, true, true, false, false, true, false, false] rfl rfl (any_of HT_.out (by kernel_rfl)) (fun _ _ _ h => h) (Or.inl ⟨by rfl, ?_⟩) ?_ ?_
            rotate_left
            ·
             intro w'
             go_simp
             with_reducible rfl
            rotate_left
            ·
             simp only [Act.put, sa_, sb_, sc_, i64_w, i32_w]
             rfl
            refine pure_ (i := 13) (N := some 73) (v := ?_) (a' := ?_) #[true, true, true, true, true, true, true, true, true, true, true, true, true, true, false, true, false, false] rfl rfl (any_of HT_.out (by kernel_rfl)) (fun _ _ _ h => h) (Or.inl ⟨by rfl, ?_⟩) ?_ ?_
            rotate_left
            ·
             intro w'
             go_simp
             with_reducible rfl
            rotate_left
            ·
             simp only [Act.put, sa_, sb_, sc_, i64_w, i32_w]
             rfl
            refine pure_ (i := 14) (N := some 74) (v := ?_) (a' := ?_) #[true, true, true, true, true, true, true, true, true, true, true, true, true, true, true, true, false, false] rfl rfl (any_of HT_.out (by kernel_rfl)) (fun _ _ _ h => h) (Or.inl ⟨by rfl, ?_⟩) ?_ ?_
            rotate_left
            ·
             intro w'
             go_simp
             with_reducible rfl
            rotate_left
            ·
             simp only [Act.put, sa_, sb_, sc_, i64_w, i32_w]
             rfl
            exact norm_ (by simp only [putAll, Act.put, sa_, sb_, sc_]) (hCont (gb529) _ ⟨hHeld, (by (with_reducible repeat (first | apply Kd.R_alloc | apply Kd.R_drewN | apply Kd.R_drew)); exact Kd.R_mono HO_3.out (fun _ hk => ⟨hk.1.1, ⟨hk.1.2.1, ⟨hk.1.2.2, hk.2⟩⟩⟩)), (bk_ BK512), (bk_ BK516), (bk_ BK517), (bk_ BK529), GW529.out, GE529.out, NB512_529.out, NB529_512.out, NB516_529.out, NB529_516.out, NB517_529.out, NB529_517.out, (bl_ HB)⟩)
          rintro gb529 w125 ⟨hS_, h0_, h1_, h2_, h3_, h4_, h5_, h6_, h7_, h8_, h9_, h10_, h11_, h12_, h13_⟩
          have n0_ : Aside0 (Kd.R k30 30 w125 w.heap.size (fun k_ => k_ ≠ gb512 ∧ k_ ≠ gb516 ∧ k_ ≠ gb517 ∧ k_ ≠ gb529) (.slice (some ad525) t505.length co8) t505) := ⟨h0_⟩
          have n1_ : Aside0 (w125.heap[gb512]? = some (.cells #[.int .i64 t509, .int .i64 t510] 30 (0, 0))) := ⟨h1_⟩
          have n2_ : Aside0 (w125.heap[gb516]? = some (.cells #[.int .i64 t513, .int .i64 t514] 30 (0, 0))) := ⟨h2_⟩
          have n3_ : Aside0 (w125.heap[gb517]? = some (.cells #[.int .i64 1000000, .int .i64 1000000] 30 (0, 0))) := ⟨h3_⟩
          have n4_ : Aside0 (w125.heap[gb529]? = some (.cells #[.int .i64 0, .int .i64 0] 30 (0, 0))) := ⟨h4_⟩
          have n5_ : Aside0 (w.heap.size ≤ gb529) := ⟨h5_⟩
          have n6_ : Aside0 (w.heap.size ≤ gb529) := ⟨h6_⟩
          have n7_ : Aside0 (gb512 ≠ gb529) := ⟨h7_⟩
          have n8_ : Aside0 (gb529 ≠ gb512) := ⟨h8_⟩
          have n9_ : Aside0 (gb516 ≠ gb529) := ⟨h9_⟩
          have n10_ : Aside0 (gb529 ≠ gb516) := ⟨h10_⟩
          have n11_ : Aside0 (gb517 ≠ gb529) := ⟨h11_⟩
          have n12_ : Aside0 (gb529 ≠ gb517) := ⟨h12_⟩
          have n13_ : Aside0 (Below w.heap.size w w125) := ⟨h13_⟩
          clear HO_3
          clear BK512
          clear BK516
          clear BK517
          clear HB
          clear h0_ h1_ h2_ h3_ h4_ h5_ h6_ h7_ h8_ h9_ h10_ h11_ h12_ h13_
          have HO_3 := n0_
          have BK512 := n1_
          have BK516 := n2_
          have BK517 := n3_
          have BK529 := n4_
          have GW529 := n5_
          have GE529 := n6_
          have NB512_529 := n7_
          have NB529_512 := n8_
          have NB516_529 := n9_
          have NB529_516 := n10_
          have NB517_529 := n11_
          have NB529_517 := n12_
          have HB := n13_
          clear n0_ n1_ n2_ n3_ n4_ n5_ n6_ n7_ n8_ n9_ n10_ n11_ n12_ n13_
          have hHeld : w125.cell? ⟨gb512, 0, none⟩ = some (.int .i64 t509) ∧ w125.cell? ⟨gb512, 1, none⟩ = some (.int .i64 t510) ∧ w125.cell? (ad525.add ((t506).toNat * 2)) = some (.int .i64 ((rd_T30 t505 t506).f0)) ∧ w125.cell? ⟨(ad525.add ((t506).toNat * 2)).block, (ad525.add ((t506).toNat * 2)).off + 1, none⟩ = some (.int .i64 ((rd_T30 t505 t506).f1)) := hS_
          refine norm_ (a' := ?_) ?_ ?_
          rotate_left
          ·
           simp only [putAll, Act.put, sa_, sb_, sc_]
           rfl
          refine one_ (i := 16) (N := none) #[true, true, true, true, true, true, true, true, true, true, true, true, true, true, true, true, true, false] rfl rfl (one_of HT_.out (by kernel_rfl)) (by decide) (fun K hK => ?_)
          have hs126 : w125.cell? ⟨gb529, 0, none⟩ = some (.int .i64 0) := (blk_cell BK529.out 0).trans rfl
          have hfs126 := blk_frozen BK529.out 0
          have hns126_0 := NB512_529.out
          have hns126_1 := NB516_529.out
          have hns126_2 := NB517_529.out
          have hms126_0 := NB529_512.out
          have hms126_1 := NB529_516.out
          have hms126_2 := NB529_517.out
          have hs127 : w125.cell? ⟨gb529, 1, none⟩ = some (.int .i64 0) := (blk_cell BK529.out 1).trans rfl
          have hfs127 := blk_frozen BK529.out 1
          have hns127_0 := NB512_529.out
          have hns127_1 := NB516_529.out
          have hns127_2 := NB517_529.out
          have hms127_0 := NB529_512.out
          have hms127_1 := NB529_516.out
          have hms127_2 := NB529_517.out
          refine skip_ (w1 := ?_) (by rfl) rfl ?_ ?_
          rotate_left
          ·
           go_simp
           rfl
          refine hK.out _ _ ⟨((cell_far (p := ⟨gb529, _, none⟩) NB512_529.out _).trans (((cell_far (p := ⟨gb529, _, none⟩) NB512_529.out _).trans (hHeld.1)))), ((cell_far (p := ⟨gb529, _, none⟩) NB512_529.out _).trans (((cell_far (p := ⟨gb529, _, none⟩) NB512_529.out _).trans (hHeld.2.1)))), ((cell_far (p := ⟨gb529, _, none⟩) (by first | exact Kd.own_blk (Kd.R_away HO_3.out (fun _ hk => hk.2.2.2)) | (rw [add_block]; exact Kd.own_blk (Kd.R_away HO_3.out (fun _ hk => hk.2.2.2))) | (show (Addr.add _ _).block ≠ _; rw [add_block]; exact Kd.own_blk (Kd.R_away HO_3.out (fun _ hk => hk.2.2.2))) | (dsimp only; exact Kd.own_blk (Kd.R_away HO_3.out (fun _ hk => hk.2.2.2)))) _).trans (((cell_far (p := ⟨gb529, _, none⟩) (by first | exact Kd.own_blk (Kd.R_away HO_3.out (fun _ hk => hk.2.2.2)) | (rw [add_block]; exact Kd.own_blk (Kd.R_away HO_3.out (fun _ hk => hk.2.2.2))) | (show (Addr.add _ _).block ≠ _; rw [add_block]; exact Kd.own_blk (Kd.R_away HO_3.out (fun _ hk => hk.2.2.2))) | (dsimp only; exact Kd.own_blk (Kd.R_away HO_3.out (fun _ hk => hk.2.2.2)))) _).trans (hHeld.2.2.1)))), ((cell_far (p := ⟨gb529, _, none⟩) (by first | exact Kd.own_blk (Kd.R_away HO_3.out (fun _ hk => hk.2.2.2)) | (rw [add_block]; exact Kd.own_blk (Kd.R_away HO_3.out (fun _ hk => hk.2.2.2))) | (show (Addr.add _ _).block ≠ _; rw [add_block]; exact Kd.own_blk (Kd.R_away HO_3.out (fun _ hk => hk.2.2.2))) | (dsimp only; exact Kd.own_blk (Kd.R_away HO_3.out (fun _ hk => hk.2.2.2)))) _).trans (((cell_far (p := ⟨gb529, _, none⟩) (by first | exact Kd.own_blk (Kd.R_away HO_3.out (fun _ hk => hk.2.2.2)) | (rw [add_block]; exact Kd.own_blk (Kd.R_away HO_3.out (fun _ hk => hk.2.2.2))) | (show (Addr.add _ _).block ≠ _; rw [add_block]; exact Kd.own_blk (Kd.R_away HO_3.out (fun _ hk => hk.2.2.2))) | (dsimp only; exact Kd.own_blk (Kd.R_away HO_3.out (fun _ hk => hk.2.2.2)))) _).trans (hHeld.2.2.2))))⟩ (fun hHeld => ?_)
          clear hK K
          refine pure_ (i := 17) (N := some 11) (v := ?_) (a' := ?_) #[true, true, true, true, true, true, true, true, true, true, true, true, true, true, true, true, true, true] rfl rfl (any_of HT_.out (by kernel_rfl)) (fun _ _ _ h => h) (Or.inl ⟨by rfl, ?_⟩) ?_ ?_
          rotate_left
          ·
           intro w'
           go_simp
           with_reducible rfl
          rotate_left
          ·
           simp only [Act.put, sa_, sb_, sc_, i64_w, i32_w]
           rfl
          refine done_ (done_of HT_.out (by kernel_rfl)) ?_
          have hnb128 := NB512_516.out
          have hnc128 := NB516_512.out
          have hnb129 := NB512_529.out
          have hnc129 := NB529_512.out
          have hcz130_0 : w125.cell? ⟨gb512, 0, none⟩ = some (.int .i64 t509) := (blk_cell BK512.out 0).trans rfl
          have hcz130_1 : w125.cell? ⟨gb512, 1, none⟩ = some (.int .i64 t510) := (blk_cell BK512.out 1).trans rfl
          have hfz130_0 := blk_frozen BK512.out 0
          have hfz130_1 := blk_frozen BK512.out 1
          try go_wp2
          go_ret
          exact ⟨by first | rfl | (simp [errW_none, errW_some] <;> rfl) | (simp [*, errW_none, errW_some] <;> rfl), by repeat (first | (with_reducible first | exact HB.out | apply below_alloc | apply pw_below_drewN | apply below_drew1 | refine below_set ?_ GE512.out | refine below_set ?_ GE516.out | refine below_set ?_ GE517.out | refine below_set ?_ GE529.out) | exact HB.out)⟩
        ·
         rw [if_neg c95] at H
         have c95b0 : decide (t509 ≤ t510) = false := decide_eq_false c95
         clear c95
         obtain rfl := Option.some.inj H
         try go_wp2_with (first | ((with_reducible refine gate_dst (N := 9) rfl ?_); refine box_event ?hg (N := 9) ?hd (cs := #[.int .i64 0, .int .i64 0]) (t := 30) ?hr ?_; (case hd => rfl); (case hg => rfl); (case hr => first | (go_simp; done) | (go_simp; rfl)); intro gb517 hg w131 hbox hb; have n0_ := Aside0.mk (Kd.R_below (Kd.R_elderB (kr_ HO_3) gb517 (Nat.le_of_eq hg.symm)) hb); have n1_ := Aside0.mk (blk_below (g := gb512) (o := .cells #[.int .i64 t509, .int .i64 t510] 30 (0, 0)) (bk_ BK512) hb); have n2_ := Aside0.mk (blk_below (g := gb516) (o := .cells #[.int .i64 t513, .int .i64 t514] 30 (0, 0)) (bk_ BK516) hb); have n3_ := Aside0.mk (below_step (bl_ HB) hb); have n4_ := Aside0.mk (hbox); have n5_ := Aside0.mk ((by rw [hg]; exact (below_size (bl_ HB)) : w.heap.size ≤ gb517)); have n6_ := Aside0.mk ((by rw [hg]; exact (below_size (bl_ HB)) : w.heap.size ≤ gb517)); have n7_ := Aside0.mk ((by rw [hg]; exact Nat.ne_of_lt (blk_lt (g := gb512) (o := .cells #[.int .i64 t509, .int .i64 t510] 30 (0, 0)) (bk_ BK512)) : gb512 ≠ gb517)); have n8_ := Aside0.mk ((by rw [hg]; exact Nat.ne_of_gt (blk_lt (g := gb512) (o := .cells #[.int .i64 t509, .int .i64 t510] 30 (0, 0)) (bk_ BK512)) : gb517 ≠ gb512)); have n9_ := Aside0.mk ((by rw [hg]; exact Nat.ne_of_lt (blk_lt (g := gb516) (o := .cells #[.int .i64 t513, .int .i64 t514] 30 (0, 0)) (bk_ BK516)) : gb516 ≠ gb517)); have n10_ := Aside0.mk ((by rw [hg]; exact Nat.ne_of_gt (blk_lt (g := gb516) (o := .cells #[.int .i64 t513, .int .i64 t514] 30 (0, 0)) (bk_ BK516)) : gb517 ≠ gb516)); clear HO_3; clear BK512; clear BK516; clear HB; have HO_3 := n0_; have BK512 := n1_; have BK516 := n2_; have HB := n3_; have BK517 := n4_; have GW517 := n5_; have GE517 := n6_; have NB512_517 := n7_; have NB517_512 := n8_; have NB516_517 := n9_; have NB517_516 := n10_; clear n0_ n1_ n2_ n3_ n4_ n5_ n6_ n7_ n8_ n9_ n10_; clear hb hbox hg; have hnb132 := NB517_512.out; have hnc132 := NB512_517.out; have hnb133 := NB517_516.out; have hnc133 := NB516_517.out; have hcz134_0 : w131.cell? ⟨gb517, 0, none⟩ = some (.int .i64 0) := (blk_cell BK517.out 0).trans rfl; have hcz134_1 : w131.cell? ⟨gb517, 1, none⟩ = some (.int .i64 0) := (blk_cell BK517.out 1).trans rfl; have hfz134_0 := blk_frozen BK517.out 0; have hfz134_1 := blk_frozen BK517.out 1))
         have n0_ : Aside0 (Kd.R k30 30 ((w131.setCell ⟨gb517, 0, none⟩ (.int .i64 1000000)).setCell ⟨gb517, 1, none⟩ (.int .i64 1000000)) w.heap.size (fun k_ => k_ ≠ gb512 ∧ k_ ≠ gb516 ∧ k_ ≠ gb517) (.slice Ao8 t505.length co8) t505) := ⟨by (with_reducible repeat (first | apply Kd.R_alloc | apply Kd.R_drewN | apply Kd.R_drew)); exact Kd.R_mono (Kd.R_far (p := ⟨gb517, 1, none⟩) (Kd.R_far (p := ⟨gb517, 0, none⟩) (Kd.R_mono HO_3.out (fun k_ hk => (⟨hk, hk.2⟩ : _ ∧ k_ ≠ gb517))) (fun _ hk => hk.2) (.int .i64 1000000)) (fun _ hk => hk.2) (.int .i64 1000000)) (fun _ hk => ⟨hk.1.1.1, ⟨hk.1.1.2, hk.1.2⟩⟩)⟩
         have n1_ : Aside0 (((w131.setCell ⟨gb517, 0, none⟩ (.int .i64 1000000)).setCell ⟨gb517, 1, none⟩ (.int .i64 1000000)).heap[gb512]? = some (.cells #[.int .i64 t509, .int .i64 t510] 30 (0, 0))) := ⟨by (with_reducible repeat (first | refine blk_drewN ?_ _ | refine blk_drew ?_ | refine blk_alloc ?_ _)); refine blk_far ?_ NB512_517.out _; (with_reducible repeat (first | refine blk_drewN ?_ _ | refine blk_drew ?_ | refine blk_alloc ?_ _)); refine blk_far ?_ NB512_517.out _; (with_reducible repeat (first | refine blk_drewN ?_ _ | refine blk_drew ?_ | refine blk_alloc ?_ _)); exact BK512.out⟩
         have n2_ : Aside0 (((w131.setCell ⟨gb517, 0, none⟩ (.int .i64 1000000)).setCell ⟨gb517, 1, none⟩ (.int .i64 1000000)).heap[gb516]? = some (.cells #[.int .i64 t513, .int .i64 t514] 30 (0, 0))) := ⟨by (with_reducible repeat (first | refine blk_drewN ?_ _ | refine blk_drew ?_ | refine blk_alloc ?_ _)); refine blk_far ?_ NB516_517.out _; (with_reducible repeat (first | refine blk_drewN ?_ _ | refine blk_drew ?_ | refine blk_alloc ?_ _)); refine blk_far ?_ NB516_517.out _; (with_reducible repeat (first | refine blk_drewN ?_ _ | refine blk_drew ?_ | refine blk_alloc ?_ _)); exact BK516.out⟩
         have n3_ : Aside0 (((w131.setCell ⟨gb517, 0, none⟩ (.int .i64 1000000)).setCell ⟨gb517, 1, none⟩ (.int .i64 1000000)).heap[gb517]? = some (.cells #[.int .i64 1000000, .int .i64 1000000] 30 (0, 0))) := ⟨by (with_reducible repeat (first | refine blk_drewN ?_ _ | refine blk_drew ?_ | refine blk_alloc ?_ _)); refine blk_put (cs := #[.int .i64 1000000, .int .i64 0]) ?_ 1 _ rfl; (with_reducible repeat (first | refine blk_drewN ?_ _ | refine blk_drew ?_ | refine blk_alloc ?_ _)); refine blk_put (cs := #[.int .i64 0, .int .i64 0]) ?_ 0 _ rfl; (with_reducible repeat (first | refine blk_drewN ?_ _ | refine blk_drew ?_ | refine blk_alloc ?_ _)); exact BK517.out⟩
         have n4_ : Aside0 (Below w.heap.size w ((w131.setCell ⟨gb517, 0, none⟩ (.int .i64 1000000)).setCell ⟨gb517, 1, none⟩ (.int .i64 1000000))) := ⟨by repeat (first | (with_reducible first | exact HB.out | apply below_alloc | apply pw_below_drewN | apply below_drew1 | refine below_set ?_ GE512.out | refine below_set ?_ GE516.out | refine below_set ?_ GE517.out) | exact HB.out)⟩
         (try clear HO_3)
         (try clear BK512)
         (try clear BK516)
         (try clear BK517)
         (try clear HB)
         generalize ((w131.setCell ⟨gb517, 0, none⟩ (.int .i64 1000000)).setCell ⟨gb517, 1, none⟩ (.int .i64 1000000)) = w135 at n0_ n1_ n2_ n3_ n4_ ⊢
         have HO_3 := n0_
         have BK512 := n1_
         have BK516 := n2_
         have BK517 := n3_
         have HB := n4_
         clear n0_ n1_ n2_ n3_ n4_
         have n0_ := Aside0.mk (Kd.R_drew HO_3.out)
         have n1_ := Aside0.mk (blk_drew BK512.out)
         have n2_ := Aside0.mk (blk_drew BK516.out)
         have n3_ := Aside0.mk (blk_drew BK517.out)
         have n4_ := Aside0.mk (below_drew1 HB.out)
         clear HO_3
         clear BK512
         clear BK516
         clear BK517
         clear HB
         have HO_3 := n0_
         have BK512 := n1_
         have BK516 := n2_
         have BK517 := n3_
         have HB := n4_
         clear n0_ n1_ n2_ n3_ n4_
         have p525 : 0 ≤ (t506 : Int) := of_decide_eq_true (by first | (with_reducible assumption) | assumption)
         have q525 : t506 < (t505.length : Int) := of_decide_eq_true (by first | (with_reducible assumption) | assumption)
         obtain ⟨ad525, e525, hx525_0, hx525_1⟩ := at_T30 (Kd.R_reads' HO_3.out).2.2 t506 p525 q525
         cases e525
         replace p525 := eq_true p525
         replace q525 := eq_true q525
         refine start_ (n := 18) (S := fun w' => w'.cell? ⟨gb512, 0, none⟩ = some (.int .i64 t509) ∧ w'.cell? ⟨gb512, 1, none⟩ = some (.int .i64 t510) ∧ w'.cell? (ad525.add ((t506).toNat * 2)) = some (.int .i64 ((rd_T30 t505 t506).f0)) ∧ w'.cell? ⟨(ad525.add ((t506).toNat * 2)).block, (ad525.add ((t506).toNat * 2)).off + 1, none⟩ = some (.int .i64 ((rd_T30 t505 t506).f1))) (ds := []) #[false, false, false, false, false, false, false, false, false, false, false, false, false, false, false, false, false, false] (by kernel_rfl) rfl rfl ⟨(blk_cell BK512.out 0).trans rfl, (blk_cell BK512.out 1).trans rfl, hx525_0, hx525_1⟩ (fun hHeld => ?_); refine with_tabW laws_FnForwardOf.tab11 laws_FnForwardOf.bits11 (fun HT_ HW_ => ?_)
         generalize w135.drew = w136 at HO_3 BK512 BK516 BK517 HB hx525_0 hx525_1 hHeld ⊢
         refine pure_ (i := 0) (N := some 61) (v := ?_) (a' := ?_) #[true, false, false, false, false, false, false, false, false, false, false, false, false, false, false, false, false, false] rfl rfl (any_of HT_.out (by kernel_rfl)) (fun _ _ _ h => h) (Or.inl ⟨by rfl, ?_⟩) ?_ ?_
         rotate_left
         ·
          intro w'
          go_simp
          with_reducible rfl
         rotate_left
         ·
          simp only [Act.put, sa_, sb_, sc_, i64_w, i32_w]
          rfl
         refine pure_ (i := 3) (N := some 64) (v := ?_) (a' := ?_) #[true, false, false, true, false, false, false, false, false, false, false, false, false, false, false, false, false, false] rfl rfl (any_of HT_.out (by kernel_rfl)) (fun _ _ _ h => h) (Or.inl ⟨by rfl, ?_⟩) ?_ ?_
         rotate_left
         ·
          intro w'
          go_simp
          with_reducible rfl
         rotate_left
         ·
          simp only [Act.put, sa_, sb_, sc_, i64_w, i32_w]
          rfl
         refine pure_ (i := 7) (N := some 68) (v := ?_) (a' := ?_) #[true, false, false, true, false, false, false, true, false, false, false, false, false, false, false, false, false, false] rfl rfl (any_of HT_.out (by kernel_rfl)) (fun _ _ _ h => h) (Or.inl ⟨by rfl, ?_⟩) ?_ ?_
         rotate_left
         ·
          intro w'
          go_simp
          with_reducible rfl
         rotate_left
         ·
          simp only [Act.put, sa_, sb_, sc_, i64_w, i32_w]
          rfl
         refine pure_ (i := 8) (N := some 69) (v := ?_) (a' := ?_) #[true, false, false, true, false, false, false, true, true, false, false, false, false, false, false, false, false, false] rfl rfl (any_of HT_.out (by kernel_rfl)) (fun _ _ _ h => h) (Or.inl ⟨by rfl, ?_⟩) ?_ ?_
         rotate_left
         ·
          intro w'
          go_simp
          with_reducible rfl
         rotate_left
         ·
          simp only [Act.put, sa_, sb_, sc_, i64_w, i32_w]
          rfl
         refine pure_ (i := 9) (N := some 70) (v := ?_) (a' := ?_) #[true, false, false, true, false, false, false, true, true, true, false, false, false, false, false, false, false, false] rfl rfl (any_of HT_.out (by kernel_rfl)) (fun _ _ _ h => h) (Or.inl ⟨by rfl, ?_⟩) ?_ ?_
         rotate_left
         ·
          intro w'
          go_simp
          with_reducible rfl
         rotate_left
         ·
          simp only [Act.put, sa_, sb_, sc_, i64_w, i32_w]
          rfl
         refine take_ (i := 1) (N := some 62) (v := ?_) (a' := ?_) #[true, true, false, true, false, false, false, true, true, true, false, false, false, false, false, false, false, false] rfl rfl (take_ofW HT_.out HW_.out (by kernel_rfl)) (fun _ _ _ h => h) (Or.inl ⟨by rfl, ?_⟩) hHeld ?_ ?_
         rotate_left
         ·
          rintro w' ⟨s0, s1, s2, s3⟩
          go_simp
          with_reducible rfl
         rotate_left
         ·
          simp only [Act.put, sa_, sb_, sc_, i64_w, i32_w]
          rfl
         refine pure_ (i := 2) (N := some 63) (v := ?_) (a' := ?_) #[true, true, true, true, false, false, false, true, true, true, false, false, false, false, false, false, false, false] rfl rfl (any_of HT_.out (by kernel_rfl)) (fun _ _ _ h => h) (Or.inl ⟨by rfl, ?_⟩) ?_ ?_
         rotate_left
         ·
          intro w'
          go_simp
          with_reducible rfl
         rotate_left
         ·
          simp only [Act.put, sa_, sb_, sc_, i64_w, i32_w]
          rfl
         refine take_ (i := 4) (N := some 65) (v := ?_) (a' := ?_) #[true, true, true, true, true, false, false, true, true, true, false, false, false, false, false, false, false, false] rfl rfl (take_ofW HT_.out HW_.out (by kernel_rfl)) (fun _ _ _ h => h) (Or.inl ⟨by rfl, ?_⟩) hHeld ?_ ?_
         rotate_left
         ·
          rintro w' ⟨s0, s1, s2, s3⟩
          go_simp
          with_reducible rfl
         rotate_left
         ·
          simp only [Act.put, sa_, sb_, sc_, i64_w, i32_w]
          rfl
         refine pure_ (i := 5) (N := some 66) (v := ?_) (a' := ?_) #[true, true, true, true, true, true, false, true, true, true, false, false, false, false, false, false, false, false] rfl rfl (any_of HT_.out (by kernel_rfl)) (fun _ _ _ h => h) (Or.inl ⟨by rfl, ?_⟩) ?_ ?_
         rotate_left
         ·
          intro w'
          go_simp
          with_reducible rfl
         rotate_left
         ·
          simp only [Act.put, sa_, sb_, sc_, i64_w, i32_w]
          rfl
         refine pure_ (i := 6) (N := some 67) (v := ?_) (a' := ?_) #[true, true, true, true, true, true, true, true, true, true, false, false, false, false, false, false, false, false] rfl rfl (any_of HT_.out (by kernel_rfl)) (fun _ _ _ h => h) (Or.inl ⟨by rfl, ?_⟩) ?_ ?_
         rotate_left
         ·
          intro w'
          go_simp
          with_reducible rfl
         rotate_left
         ·
          simp only [Act.put, sa_, sb_, sc_, i64_w, i32_w]
          rfl
         refine take_ (i := 10) (N := some 71) (v := ?_) (a' := ?_) #[true, true, true, true, true, true, true, true, true, true, true, false, false, false, false, false, false, false] rfl rfl (take_ofW HT_.out HW_.out (by kernel_rfl)) (fun _ _ _ h => h) (Or.inl ⟨by rfl, ?_⟩) hHeld ?_ ?_
         rotate_left
         ·
          rintro w' ⟨s0, s1, s2, s3⟩
          go_simp
          with_reducible rfl
         rotate_left
         ·
          simp only [Act.put, sa_, sb_, sc_, i64_w, i32_w]
          rfl
         refine join_ (σ := Nat) 2 #[true, true, true, true, true, true, true, true, true, true, true, true, true, true, true, true, false, false] (fun s_ => [(72, .tuple #[.agg #[.int .i64 t526, .int .i64 t527], .bool t528]), (10, .pointer (some ⟨s_, 0, none⟩)), (60, .tuple #[.agg #[.int .i64 t526, .int .i64 t527], .bool t528]), (73, .agg #[.int .i64 t526, .int .i64 t527]), (74, .bool t528)]) (fun s_ w' => (w'.cell? ⟨gb512, 0, none⟩ = some (.int .i64 t509) ∧ w'.cell? ⟨gb512, 1, none⟩ = some (.int .i64 t510) ∧ w'.cell? (ad525.add ((t506).toNat * 2)) = some (.int .i64 ((rd_T30 t505 t506).f0)) ∧ w'.cell? ⟨(ad525.add ((t506).toNat * 2)).block, (ad525.add ((t506).toNat * 2)).off + 1, none⟩ = some (.int .i64 ((rd_T30 t505 t506).f1))) ∧ (Kd.R k30 30 w' w.heap.size (fun k_ => k_ ≠ gb512 ∧ k_ ≠ gb516 ∧ k_ ≠ gb517 ∧ k_ ≠ s_) (.slice (some ad525) t505.length co8) t505) ∧ (w'.heap[gb512]? = some (.cells #[.int .i64 t509, .int .i64 t510] 30 (0, 0))) ∧ (w'.heap[gb516]? = some (.cells #[.int .i64 t513, .int .i64 t514] 30 (0, 0))) ∧ (w'.heap[gb517]? = some (.cells #[.int .i64 1000000, .int .i64 1000000] 30 (0, 0))) ∧ (w'.heap[s_]? = some (.cells #[.int .i64 0, .int .i64 0] 30 (0, 0))) ∧ (w.heap.size ≤ s_) ∧ (w.heap.size ≤ s_) ∧ (gb512 ≠ s_) ∧ (s_ ≠ gb512) ∧ (gb516 ≠ s_) ∧ (s_ ≠ gb516) ∧ (gb517 ≠ s_) ∧ (s_ ≠ gb517) ∧ (Below w.heap.size w w')) ?_ ?_
         rotate_left
         ·
          intro hCont
          refine two_ (i := 11) (j := 15) (Ni := some 72) (Nj := some 10) #[true, true, true, true, true, true, true, true, true, true, true, true, false, false, false, false, false, false] #[true, true, true, true, true, true, true, true, true, true, true, false, false, false, false, true, false, false] rfl rfl rfl rfl (two_of HT_.out (by kernel_rfl)) (by decide) (by decide) (fun K hK => ?_) (fun K hK => ?_)
          ·
           skip
           refine goes_ Tryd.func21 (by kernel_rfl) rfl #[.agg #[.int .i64 (wrap64 (t509 + 1000000)), .int .i64 (wrap64 (t510 + 1000000))], .agg #[.int .i64 ((rd_T30 t505 t506).f0), .int .i64 ((rd_T30 t505 t506).f1)]] (by rfl) rfl rfl (by (try simp only [List.map_toArray, List.map_cons, List.map_nil]); first | done | rfl | (simp only [List.length_drop, List.length_take]; rfl)) ?_
           with_reducible refine (impl_MulRange.calls (wrap64 (t509 + 1000000)) (wrap64 (t510 + 1000000)) ((rd_T30 t505 t506).f0) ((rd_T30 t505 t506).f1) t526 t527 t528 _ ?side1 A94.out).mono ?_
           (case side1 => first | exact HTab.out | exact Tab.below HTab.out (bl_ HB))
           rintro e w137 ⟨rfl, hb⟩
           have HS2_ := (hb.cell (World.block_lt_of_cell? _ _ (hHeld.2.2.1))).trans (hHeld.2.2.1)
           have HS3_ := (hb.cell (World.block_lt_of_cell? _ _ (hHeld.2.2.2))).trans (hHeld.2.2.2)
           refine ⟨_, rfl, ?_⟩
           have n0_ := Aside0.mk (Kd.R_below (kr_ HO_3) hb)
           have n1_ := Aside0.mk (blk_below (g := gb512) (o := .cells #[.int .i64 t509, .int .i64 t510] 30 (0, 0)) (bk_ BK512) hb)
           have n2_ := Aside0.mk (blk_below (g := gb516) (o := .cells #[.int .i64 t513, .int .i64 t514] 30 (0, 0)) (bk_ BK516) hb)
           have n3_ := Aside0.mk (blk_below (g := gb517) (o := .cells #[.int .i64 1000000, .int .i64 1000000] 30 (0, 0)) (bk_ BK517) hb)
           have n4_ := Aside0.mk (below_step (bl_ HB) hb)
           clear HO_3
           clear BK512
           clear BK516
           clear BK517
           clear HB
           have HO_3 := n0_
           have BK512 := n1_
           have BK516 := n2_
           have BK517 := n3_
           have HB := n4_
           clear n0_ n1_ n2_ n3_ n4_
           (try clear hb)
           (try clear hb2)
           (try clear hk)
           (try clear hi)
           refine hK.out _ _ ⟨(blk_cell BK512.out 0).trans rfl, (blk_cell BK512.out 1).trans rfl, HS2_, HS3_⟩ (fun hHeld => ?_)
           clear hK K
           refine norm_ (a' := ?_) ?_ ?_
           rotate_left
           ·
            show Act.put _ (some 72) _ = _
            simp only [Act.put, sa_, sb_, sc_, i64_w, i32_w]
            rfl
           refine pure_ (i := 12) (N := some 60) (v := ?_) (a' := ?_) #[true, true, true, true, true, true, true, true, true, true, true, true, true, false, false, false, false, false] rfl rfl (any_of HT_.out (by kernel_rfl)) (fun _ _ _ h => h) (Or.inl ⟨by rfl, ?_⟩) ?_ ?_
           rotate_left
           ·
            intro w'
            go_simp
            with_reducible rfl
           rotate_left
           ·
            simp only [Act.put, sa_, sb_, sc_, i64_w, i32_w]
            rfl
           refine pure_ (i := 13) (N := some 73) (v := ?_) (a' := ?_) #[true, true, true, true, true, true, true, true, true, true, true, true, true, true, false, false, false, false] rfl rfl (any_of HT_.out (by kernel_rfl)) (fun _ _ _ h => h) (Or.inl ⟨by rfl, ?_⟩) ?_ ?_
           rotate_left
           ·
            intro w'
            go_simp
            with_reducible rfl
           rotate_left
           ·
            simp only [Act.put, sa_, sb_, sc_, i64_w, i32_w]
            rfl
           refine pure_ (i := 14) (N := some 74) (v := ?_) (a' := ?_) #[true, true, true, true, true, true, true, true, true, true, true, true, true, true, true, false, false, false] rfl rfl (any_of HT_.out (by kernel_rfl)) (fun _ _ _ h => h) (Or.inl ⟨by rfl, ?_⟩) ?_ ?_
           rotate_left
           ·
            intro w'
            go_simp
            with_reducible rfl
           rotate_left
           ·
            simp only [Act.put, sa_, sb_, sc_, i64_w, i32_w]
            rfl
           refine one_ (i := 15) (N := some 10) #[true, true, true, true, true, true, true, true, true, true, true, true, true, true, true, true, false, false] rfl rfl (one_of HT_.out (by kernel_rfl)) (by decide) (fun K hK => ?_)
           refine box_step ?hg (N := 10) ?hd (cs := #[.int .i64 0, .int .i64 0]) (t := 30) ?hr ?_; (case hd => rfl); (case hg => rfl); (case hr => first | (go_simp; done) | (go_simp; rfl))
           intro gb529 hg w138 hbox hb
           have HS2_ := (hb.cell (World.block_lt_of_cell? _ _ (hHeld.2.2.1))).trans (hHeld.2.2.1)
           have HS3_ := (hb.cell (World.block_lt_of_cell? _ _ (hHeld.2.2.2))).trans (hHeld.2.2.2)
           have n0_ := Aside0.mk (Kd.R_below (Kd.R_elderB (kr_ HO_3) gb529 (Nat.le_of_eq hg.symm)) hb)
           have n1_ := Aside0.mk (blk_below (g := gb512) (o := .cells #[.int .i64 t509, .int .i64 t510] 30 (0, 0)) (bk_ BK512) hb)
           have n2_ := Aside0.mk (blk_below (g := gb516) (o := .cells #[.int .i64 t513, .int .i64 t514] 30 (0, 0)) (bk_ BK516) hb)
           have n3_ := Aside0.mk (blk_below (g := gb517) (o := .cells #[.int .i64 1000000, .int .i64 1000000] 30 (0, 0)) (bk_ BK517) hb)
           have n4_ := Aside0.mk (below_step (bl_ HB) hb)
           have n5_ := Aside0.mk (hbox)
           have n6_ := Aside0.mk ((by rw [hg]; exact (below_size (bl_ HB)) : w.heap.size ≤ gb529))
           have n7_ := Aside0.mk ((by rw [hg]; exact (below_size (bl_ HB)) : w.heap.size ≤ gb529))
           have n8_ := Aside0.mk ((by rw [hg]; exact Nat.ne_of_lt (blk_lt (g := gb512) (o := .cells #[.int .i64 t509, .int .i64 t510] 30 (0, 0)) (bk_ BK512)) : gb512 ≠ gb529))
           have n9_ := Aside0.mk ((by rw [hg]; exact Nat.ne_of_gt (blk_lt (g := gb512) (o := .cells #[.int .i64 t509, .int .i64 t510] 30 (0, 0)) (bk_ BK512)) : gb529 ≠ gb512))
           have n10_ := Aside0.mk ((by rw [hg]; exact Nat.ne_of_lt (blk_lt (g := gb516) (o := .cells #[.int .i64 t513, .int .i64 t514] 30 (0, 0)) (bk_ BK516)) : gb516 ≠ gb529))
           have n11_ := Aside0.mk ((by rw [hg]; exact Nat.ne_of_gt (blk_lt (g := gb516) (o := .cells #[.int .i64 t513, .int .i64 t514] 30 (0, 0)) (bk_ BK516)) : gb529 ≠ gb516))
           have n12_ := Aside0.mk ((by rw [hg]; exact Nat.ne_of_lt (blk_lt (g := gb517) (o := .cells #[.int .i64 1000000, .int .i64 1000000] 30 (0, 0)) (bk_ BK517)) : gb517 ≠ gb529))
           have n13_ := Aside0.mk ((by rw [hg]; exact Nat.ne_of_gt (blk_lt (g := gb517) (o := .cells #[.int .i64 1000000, .int .i64 1000000] 30 (0, 0)) (bk_ BK517)) : gb529 ≠ gb517))
           clear HO_3
           clear BK512
           clear BK516
           clear BK517
           clear HB
           have HO_3 := n0_
           have BK512 := n1_
           have BK516 := n2_
           have BK517 := n3_
           have HB := n4_
           have BK529 := n5_
           have GW529 := n6_
           have GE529 := n7_
           have NB512_529 := n8_
           have NB529_512 := n9_
           have NB516_529 := n10_
           have NB529_516 := n11_
           have NB517_529 := n12_
           have NB529_517 := n13_
           clear n0_ n1_ n2_ n3_ n4_ n5_ n6_ n7_ n8_ n9_ n10_ n11_ n12_ n13_
           clear hb hbox hg
           refine hK.out _ _ ⟨(blk_cell BK512.out 0).trans rfl, (blk_cell BK512.out 1).trans rfl, HS2_, HS3_⟩ (fun hHeld => ?_)
           clear hK K
           refine norm_ (a' := ?_) ?_ ?_
           rotate_left
           ·
            show Act.put _ (some 10) _ = _
            simp only [Act.put, sa_, sb_, sc_, i64_w, i32_w]
            rfl
           exact norm_ (by simp only [putAll, Act.put, sa_, sb_, sc_]) (hCont (gb529) _ ⟨hHeld, (by (with_reducible repeat (first | apply Kd.R_alloc | apply Kd.R_drewN | apply Kd.R_drew)); exact Kd.R_mono HO_3.out (fun _ hk => ⟨hk.1.1, ⟨hk.1.2.1, ⟨hk.1.2.2, hk.2⟩⟩⟩)), (bk_ BK512), (bk_ BK516), (bk_ BK517), (bk_ BK529), GW529.out, GE529.out, NB512_529.out, NB529_512.out, NB516_529.out, NB529_516.out, NB517_529.out, NB529_517.out, (bl_ HB)⟩)
          ·
           skip
           refine box_step ?hg (N := 10) ?hd (cs := #[.int .i64 0, .int .i64 0]) (t := 30) ?hr ?_; (case hd => rfl); (case hg => rfl); (case hr => first | (go_simp; done) | (go_simp; rfl))
           intro gb529 hg w137 hbox hb
           have HS2_ := (hb.cell (World.block_lt_of_cell? _ _ (hHeld.2.2.1))).trans (hHeld.2.2.1)
           have HS3_ := (hb.cell (World.block_lt_of_cell? _ _ (hHeld.2.2.2))).trans (hHeld.2.2.2)
           have n0_ := Aside0.mk (Kd.R_below (Kd.R_elderB (kr_ HO_3) gb529 (Nat.le_of_eq hg.symm)) hb)
           have n1_ := Aside0.mk (blk_below (g := gb512) (o := .cells #[.int .i64 t509, .int .i64 t510] 30 (0, 0)) (bk_ BK512) hb)
           have n2_ := Aside0.mk (blk_below (g := gb516) (o := .cells #[.int .i64 t513, .int .i64 t514] 30 (0, 0)) (bk_ BK516) hb)
           have n3_ := Aside0.mk (blk_below (g := gb517) (o := .cells #[.int .i64 1000000, .int .i64 1000000] 30 (0, 0)) (bk_ BK517) hb)
           have n4_ := Aside0.mk (below_step (bl_ HB) hb)
           have n5_ := Aside0.mk (hbox)
           have n6_ := Aside0.mk ((by rw [hg]; exact (below_size (bl_ HB)) : w.heap.size ≤ gb529))
           have n7_ := Aside0.mk ((by rw [hg]; exact (below_size (bl_ HB)) : w.heap.size ≤ gb529))
           have n8_ := Aside0.mk ((by rw [hg]; exact Nat.ne_of_lt (blk_lt (g := gb512) (o := .cells #[.int .i64 t509, .int .i64 t510] 30 (0, 0)) (bk_ BK512)) : gb512 ≠ gb529))
           have n9_ := Aside0.mk ((by rw [hg]; exact Nat.ne_of_gt (blk_lt (g := gb512) (o := .cells #[.int .i64 t509, .int .i64 t510] 30 (0, 0)) (bk_ BK512)) : gb529 ≠ gb512))
           have n10_ := Aside0.mk ((by rw [hg]; exact Nat.ne_of_lt (blk_lt (g := gb516) (o := .cells #[.int .i64 t513, .int .i64 t514] 30 (0, 0)) (bk_ BK516)) : gb516 ≠ gb529))
           have n11_ := Aside0.mk ((by rw [hg]; exact Nat.ne_of_gt (blk_lt (g := gb516) (o := .cells #[.int .i64 t513, .int .i64 t514] 30 (0, 0)) (bk_ BK516)) : gb529 ≠ gb516))
           have n12_ := Aside0.mk ((by rw [hg]; exact Nat.ne_of_lt (blk_lt (g := gb517) (o := .cells #[.int .i64 1000000, .int .i64 1000000] 30 (0, 0)) (bk_ BK517)) : gb517 ≠ gb529))
           have n13_ := Aside0.mk ((by rw [hg]; exact Nat.ne_of_gt (blk_lt (g := gb517) (o := .cells #[.int .i64 1000000, .int .i64 1000000] 30 (0, 0)) (bk_ BK517)) : gb529 ≠ gb517))
           clear HO_3
           clear BK512
           clear BK516
           clear BK517
           clear HB
           have HO_3 := n0_
           have BK512 := n1_
           have BK516 := n2_
           have BK517 := n3_
           have HB := n4_
           have BK529 := n5_
           have GW529 := n6_
           have GE529 := n7_
           have NB512_529 := n8_
           have NB529_512 := n9_
           have NB516_529 := n10_
           have NB529_516 := n11_
           have NB517_529 := n12_
           have NB529_517 := n13_
           clear n0_ n1_ n2_ n3_ n4_ n5_ n6_ n7_ n8_ n9_ n10_ n11_ n12_ n13_
           clear hb hbox hg
           refine hK.out _ _ ⟨(blk_cell BK512.out 0).trans rfl, (blk_cell BK512.out 1).trans rfl, HS2_, HS3_⟩ (fun hHeld => ?_)
           clear hK K
           refine norm_ (a' := ?_) ?_ ?_
           rotate_left
           ·
            show Act.put _ (some 10) _ = _
            simp only [Act.put, sa_, sb_, sc_, i64_w, i32_w]
            rfl
           refine one_ (i := 11) (N := some 72) #[true, true, true, true, true, true, true, true, true, true, true, true, false, false, false, true, false, false] rfl rfl (one_of HT_.out (by kernel_rfl)) (by decide) (fun K hK => ?_)
           refine goes_ Tryd.func21 (by kernel_rfl) rfl #[.agg #[.int .i64 (wrap64 (t509 + 1000000)), .int .i64 (wrap64 (t510 + 1000000))], .agg #[.int .i64 ((rd_T30 t505 t506).f0), .int .i64 ((rd_T30 t505 t506).f1)]] (by rfl) rfl rfl (by (try simp only [List.map_toArray, List.map_cons, List.map_nil]); first | done | rfl | (simp only [List.length_drop, List.length_take]; rfl)) ?_
           with_reducible refine (impl_MulRange.calls (wrap64 (t509 + 1000000)) (wrap64 (t510 + 1000000)) ((rd_T30 t505 t506).f0) ((rd_T30 t505 t506).f1) t526 t527 t528 _ ?side1 A94.out).mono ?_
           (case side1 => first | exact HTab.out | exact Tab.below HTab.out (bl_ HB))
           rintro e w138 ⟨rfl, hb⟩
           have HS2_ := (hb.cell (World.block_lt_of_cell? _ _ (hHeld.2.2.1))).trans (hHeld.2.2.1)
           have HS3_ := (hb.cell (World.block_lt_of_cell? _ _ (hHeld.2.2.2))).trans (hHeld.2.2.2)
           refine ⟨_, rfl, ?_⟩
           have n0_ := Aside0.mk (Kd.R_below (kr_ HO_3) hb)
           have n1_ := Aside0.mk (blk_below (g := gb512) (o := .cells #[.int .i64 t509, .int .i64 t510] 30 (0, 0)) (bk_ BK512) hb)
           have n2_ := Aside0.mk (blk_below (g := gb516) (o := .cells #[.int .i64 t513, .int .i64 t514] 30 (0, 0)) (bk_ BK516) hb)
           have n3_ := Aside0.mk (blk_below (g := gb517) (o := .cells #[.int .i64 1000000, .int .i64 1000000] 30 (0, 0)) (bk_ BK517) hb)
           have n4_ := Aside0.mk (blk_below (g := gb529) (o := .cells #[.int .i64 0, .int .i64 0] 30 (0, 0)) (bk_ BK529) hb)
           have n5_ := Aside0.mk (below_step (bl_ HB) hb)
           clear HO_3
           clear BK512
           clear BK516
           clear BK517
           clear BK529
           clear HB
           have HO_3 := n0_
           have BK512 := n1_
           have BK516 := n2_
           have BK517 := n3_
           have BK529 := n4_
           have HB := n5_
           clear n0_ n1_ n2_ n3_ n4_ n5_
           (try clear hb)
           (try clear hb2)
           (try clear hk)
           (try clear hi)
           refine hK.out _ _ ⟨(blk_cell BK512.out 0).trans rfl, (blk_cell BK512.out 1).trans rfl, HS2_, HS3_⟩ (fun hHeld => ?_)
           clear hK K
           refine norm_ (a' := ?_) ?_ ?_
           rotate_left
           ·
            show Act.put _ (some 72) _ = _
            simp only [Act.put, sa_, sb_, sc_, i64_w, i32_w]
            rfl
           refine pure_ (i := 12) (N := some 60) (v := ?_) (a' := ?_) #[true, true, true, true, true, true, true, true, true, true, true, true, true, false, false, true, false, false] rfl rfl (any_of HT_.out (by kernel_rfl)) (fun _ _ _ h => h) (Or.inl ⟨by rfl, ?_⟩) ?_ ?_
           rotate_left
           ·
            intro w'
            go_simp
            with_reducible rfl
           rotate_left
           ·
            simp only [Act.put, sa_, sb_, sc_, i64_w, i32_w]
            rfl
           refine pure_ (i := 13) (N := some 73) (v := ?_) (a' := ?_) #[true, true, true, true, true, true, true, true, true, true, true, true, true, true, false, true, false, false] rfl rfl (any_of HT_.out (by kernel_rfl)) (fun _ _ _ h => h) (Or.inl ⟨by rfl, ?_⟩) ?_ ?_
           rotate_left
           ·
            intro w'
            go_simp
            with_reducible rfl
           rotate_left
           ·
            simp only [Act.put, sa_, sb_, sc_, i64_w, i32_w]
            rfl
           refine pure_ (i := 14) (N := some 74) (v := ?_) (a' := ?_) #[true, true, true, true, true, true, true, true, true, true, true, true, true, true, true, true, false, false] rfl rfl (any_of HT_.out (by kernel_rfl)) (fun _ _ _ h => h) (Or.inl ⟨by rfl, ?_⟩) ?_ ?_
           rotate_left
           ·
            intro w'
            go_simp
            with_reducible rfl
           rotate_left
           ·
            simp only [Act.put, sa_, sb_, sc_, i64_w, i32_w]
            rfl
           exact norm_ (by simp only [putAll, Act.put, sa_, sb_, sc_]) (hCont (gb529) _ ⟨hHeld, (by (with_reducible repeat (first | apply Kd.R_alloc | apply Kd.R_drewN | apply Kd.R_drew)); exact Kd.R_mono HO_3.out (fun _ hk => ⟨hk.1.1, ⟨hk.1.2.1, ⟨hk.1.2.2, hk.2⟩⟩⟩)), (bk_ BK512), (bk_ BK516), (bk_ BK517), (bk_ BK529), GW529.out, GE529.out, NB512_529.out, NB529_512.out, NB516_529.out, NB529_516.out, NB517_529.out, NB529_517.out, (bl_ HB)⟩)
         rintro gb529 w139 ⟨hS_, h0_, h1_, h2_, h3_, h4_, h5_, h6_, h7_, h8_, h9_, h10_, h11_, h12_, h13_⟩
         have n0_ : Aside0 (Kd.R k30 30 w139 w.heap.size (fun k_ => k_ ≠ gb512 ∧ k_ ≠ gb516 ∧ k_ ≠ gb517 ∧ k_ ≠ gb529) (.slice (some ad525) t505.length co8) t505) := ⟨h0_⟩
         have n1_ : Aside0 (w139.heap[gb512]? = some (.cells #[.int .i64 t509, .int .i64 t510] 30 (0, 0))) := ⟨h1_⟩
         have n2_ : Aside0 (w139.heap[gb516]? = some (.cells #[.int .i64 t513, .int .i64 t514] 30 (0, 0))) := ⟨h2_⟩
         have n3_ : Aside0 (w139.heap[gb517]? = some (.cells #[.int .i64 1000000, .int .i64 1000000] 30 (0, 0))) := ⟨h3_⟩
         have n4_ : Aside0 (w139.heap[gb529]? = some (.cells #[.int .i64 0, .int .i64 0] 30 (0, 0))) := ⟨h4_⟩
         have n5_ : Aside0 (w.heap.size ≤ gb529) := ⟨h5_⟩
         have n6_ : Aside0 (w.heap.size ≤ gb529) := ⟨h6_⟩
         have n7_ : Aside0 (gb512 ≠ gb529) := ⟨h7_⟩
         have n8_ : Aside0 (gb529 ≠ gb512) := ⟨h8_⟩
         have n9_ : Aside0 (gb516 ≠ gb529) := ⟨h9_⟩
         have n10_ : Aside0 (gb529 ≠ gb516) := ⟨h10_⟩
         have n11_ : Aside0 (gb517 ≠ gb529) := ⟨h11_⟩
         have n12_ : Aside0 (gb529 ≠ gb517) := ⟨h12_⟩
         have n13_ : Aside0 (Below w.heap.size w w139) := ⟨h13_⟩
         clear HO_3
         clear BK512
         clear BK516
         clear BK517
         clear HB
         clear h0_ h1_ h2_ h3_ h4_ h5_ h6_ h7_ h8_ h9_ h10_ h11_ h12_ h13_
         have HO_3 := n0_
         have BK512 := n1_
         have BK516 := n2_
         have BK517 := n3_
         have BK529 := n4_
         have GW529 := n5_
         have GE529 := n6_
         have NB512_529 := n7_
         have NB529_512 := n8_
         have NB516_529 := n9_
         have NB529_516 := n10_
         have NB517_529 := n11_
         have NB529_517 := n12_
         have HB := n13_
         clear n0_ n1_ n2_ n3_ n4_ n5_ n6_ n7_ n8_ n9_ n10_ n11_ n12_ n13_
         have hHeld : w139.cell? ⟨gb512, 0, none⟩ = some (.int .i64 t509) ∧ w139.cell? ⟨gb512, 1, none⟩ = some (.int .i64 t510) ∧ w139.cell? (ad525.add ((t506).toNat * 2)) = some (.int .i64 ((rd_T30 t505 t506).f0)) ∧ w139.cell? ⟨(ad525.add ((t506).toNat * 2)).block, (ad525.add ((t506).toNat * 2)).off + 1, none⟩ = some (.int .i64 ((rd_T30 t505 t506).f1)) := hS_
         refine norm_ (a' := ?_) ?_ ?_
         rotate_left
         ·
          simp only [putAll, Act.put, sa_, sb_, sc_]
          rfl
         refine one_ (i := 16) (N := none) #[true, true, true, true, true, true, true, true, true, true, true, true, true, true, true, true, true, false] rfl rfl (one_of HT_.out (by kernel_rfl)) (by decide) (fun K hK => ?_)
         have hs140 : w139.cell? ⟨gb529, 0, none⟩ = some (.int .i64 0) := (blk_cell BK529.out 0).trans rfl
         have hfs140 := blk_frozen BK529.out 0
         have hns140_0 := NB512_529.out
         have hns140_1 := NB516_529.out
         have hns140_2 := NB517_529.out
         have hms140_0 := NB529_512.out
         have hms140_1 := NB529_516.out
         have hms140_2 := NB529_517.out
         have hs141 : w139.cell? ⟨gb529, 1, none⟩ = some (.int .i64 0) := (blk_cell BK529.out 1).trans rfl
         have hfs141 := blk_frozen BK529.out 1
         have hns141_0 := NB512_529.out
         have hns141_1 := NB516_529.out
         have hns141_2 := NB517_529.out
         have hms141_0 := NB529_512.out
         have hms141_1 := NB529_516.out
         have hms141_2 := NB529_517.out
         refine skip_ (w1 := ?_) (by rfl) rfl ?_ ?_
         rotate_left
         ·
          go_simp
          rfl
         refine hK.out _ _ ⟨((cell_far (p := ⟨gb529, _, none⟩) NB512_529.out _).trans (((cell_far (p := ⟨gb529, _, none⟩) NB512_529.out _).trans (hHeld.1)))), ((cell_far (p := ⟨gb529, _, none⟩) NB512_529.out _).trans (((cell_far (p := ⟨gb529, _, none⟩) NB512_529.out _).trans (hHeld.2.1)))), ((cell_far (p := ⟨gb529, _, none⟩) (by first | exact Kd.own_blk (Kd.R_away HO_3.out (fun _ hk => hk.2.2.2)) | (rw [add_block]; exact Kd.own_blk (Kd.R_away HO_3.out (fun _ hk => hk.2.2.2))) | (show (Addr.add _ _).block ≠ _; rw [add_block]; exact Kd.own_blk (Kd.R_away HO_3.out (fun _ hk => hk.2.2.2))) | (dsimp only; exact Kd.own_blk (Kd.R_away HO_3.out (fun _ hk => hk.2.2.2)))) _).trans (((cell_far (p := ⟨gb529, _, none⟩) (by first | exact Kd.own_blk (Kd.R_away HO_3.out (fun _ hk => hk.2.2.2)) | (rw [add_block]; exact Kd.own_blk (Kd.R_away HO_3.out (fun _ hk => hk.2.2.2))) | (show (Addr.add _ _).block ≠ _; rw [add_block]; exact Kd.own_blk (Kd.R_away HO_3.out (fun _ hk => hk.2.2.2))) | (dsimp only; exact Kd.own_blk (Kd.R_away HO_3.out (fun _ hk => hk.2.2.2)))) _).trans (hHeld.2.2.1)))), ((cell_far (p := ⟨gb529, _, none⟩) (by first | exact Kd.own_blk (Kd.R_away HO_3.out (fun _ hk => hk.2.2.2)) | (rw [add_block]; exact Kd.own_blk (Kd.R_away HO_3.out (fun _ hk => hk.2.2.2))) | (show (Addr.add _ _).block ≠ _; rw [add_block]; exact Kd.own_blk (Kd.R_away HO_3.out (fun _ hk => hk.2.2.2))) | (dsimp only; exact Kd.own_blk (Kd.R_away HO_3.out (fun _ hk => hk.2.2.2)))) _).trans (((cell_far (p := ⟨gb529, _, none⟩) (by first | exact Kd.own_blk (Kd.R_away HO_3.out (fun _ hk => hk.2.2.2)) | (rw [add_block]; exact Kd.own_blk (Kd.R_away HO_3.out (fun _ hk => hk.2.2.2))) | (show (Addr.add _ _).block ≠ _; rw [add_block]; exact Kd.own_blk (Kd.R_away HO_3.out (fun _ hk => hk.2.2.2))) | (dsimp only; exact Kd.own_blk (Kd.R_away HO_3.out (fun _ hk => hk.2.2.2)))) _).trans (hHeld.2.2.2))))⟩ (fun hHeld => ?_)
         clear hK K
         refine pure_ (i := 17) (N := some 11) (v := ?_) (a' := ?_) #[true, true, true, true, true, true, true, true, true, true, true, true, true, true, true, true, true, true] rfl rfl (any_of HT_.out (by kernel_rfl)) (fun _ _ _ h => h) (Or.inl ⟨by rfl, ?_⟩) ?_ ?_
         rotate_left
         ·
          intro w'
          go_simp
          with_reducible rfl
         rotate_left
         ·
          simp only [Act.put, sa_, sb_, sc_, i64_w, i32_w]
          rfl
         refine done_ (done_of HT_.out (by kernel_rfl)) ?_
         have hnb142 := NB512_516.out
         have hnc142 := NB516_512.out
         have hnb143 := NB512_529.out
         have hnc143 := NB529_512.out
         have hcz144_0 : w139.cell? ⟨gb512, 0, none⟩ = some (.int .i64 t509) := (blk_cell BK512.out 0).trans rfl
         have hcz144_1 : w139.cell? ⟨gb512, 1, none⟩ = some (.int .i64 t510) := (blk_cell BK512.out 1).trans rfl
         have hfz144_0 := blk_frozen BK512.out 0
         have hfz144_1 := blk_frozen BK512.out 1
         try go_wp2
         go_ret
         exact ⟨by first | rfl | (simp [errW_none, errW_some] <;> rfl) | (simp [*, errW_none, errW_some] <;> rfl), by repeat (first | (with_reducible first | exact HB.out | apply below_alloc | apply pw_below_drewN | apply below_drew1 | refine below_set ?_ GE512.out | refine below_set ?_ GE516.out | refine below_set ?_ GE517.out | refine below_set ?_ GE529.out) | exact HB.out)⟩
       ·
        rw [if_neg c93] at H
        exact absurd H (by simp)
      ·
       rw [if_neg c92] at H
       exact absurd H (by simp)

/-- THE ONE PURE STATEMENT of laws_FnForwardOf: yours. -/
def laws_FnForwardOf.Pure : Prop := ∀ (l0 : List Int), l0.length ≤ maxLen → l0.length * 1 ≤ 140737488351232 → (∀ x ∈ l0, (Lit.int .u8 x).wf = true) → ∃ k, laws_FnForwardOf.f k l0 = some true
theorem laws_FnForwardOf.walk (P : laws_FnForwardOf.Pure) (a0 : Option Addr) (len0 cap0 : Nat) (z0 : List Int) (w : World) (w0 : (a0 = none ∧ len0 = 0 ∧ cap0 = 0 ∧ z0 = []) ∨ ∃ x, a0 = some x ∧ len0 ≤ cap0 ∧ cap0 ≤ maxLen ∧ z0.length = cap0 ∧ (∀ i, i < z0.length → w.cell? (x.add i) = some (.int .u8 (z0.getD i 0))) ∧ ∀ n ∈ z0, (Lit.int .u8 n).wf = true) (y0 : len0 * 1 ≤ 140737488351232) (hT : Tab w) :
  Calls Tryd.prog 8 #[.slice a0 len0 cap0] w fun e w' => e = .returned (.bool true) ∧ Below w.heap.size w w' := by
 obtain ⟨l0, rfl, hr0, hm0, hw0, hc0⟩ := ReadsInt.ofRowC w0
 obtain ⟨k, h⟩ := P l0 hm0 y0 hw0
 refine (laws_FnForwardOf.calls k _ _ l0 true w (Kd.C_of_reads (d := (0 : Int)) (h1 := fun _ => rfl) hr0) hc0 hT h).mono ?_
 rintro e w' ⟨rfl, hd⟩
 exact ⟨rfl, hd⟩

end Go.Proofs.YtpijjacnbpnlfaaDoor.Q

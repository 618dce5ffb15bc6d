/- Printed by a program (bprint.py) out of the translation: for each Go function a Lean function, and the proof that the call comes to its answers. Conditions: they stand in each theorem. -/
import Derived.Test.YtpijjacnbpnlfaaDoorQx0
import Derived.Test.YtpijjacnbpnlfaaDoorQx1
import Derived.Test.YtpijjacnbpnlfaaDoorQx13
import Derived.Test.YtpijjacnbpnlfaaDoorQx14
import Derived.Test.YtpijjacnbpnlfaaDoorTab
namespace Go.Proofs.YtpijjacnbpnlfaaDoor.Q
open Go.RowKit Go.Proofs.YtpijjacnbpnlfaaDoorW.PrintWords Go.Proofs.YtpijjacnbpnlfaaDoorW.PrintLast Go.Proofs.YtpijjacnbpnlfaaDoorW.PrintMore
attribute [local go_sem] max2_int min2_int max_two min_two max_three min_three max_four min_four   -- for this text's walks alone
set_option linter.unusedVariables false
set_option linter.unusedSimpArgs false

attribute [local go_sem high] eqA30
set_option linter.unusedSectionVars false
variable [Sent]

/-! ### laws_FnValueAtYears: function 7 -/
mutual
def laws_FnValueAtYears.j0 : Nat → List (S30) → Bool → Bool → Bool → Int → Int → Int → Int → Option (Bool)
  | 0, _, _, _, _, _, _, _, _ => none
  | k + 1, x3, x6, x8, x43, x427000, x427001, x431000, x431001 => if x43 = true then (if (x427000 == x431000 && (x427001 == x431001)) = true then (some (x6 == x8)) else (some false)) else (laws_FnValueAtYears.l0 k x3 1)
def laws_FnValueAtYears.l0 : Nat → List (S30) → Int → Option (Bool)
  | 0, _, _ => none
  | k + 1, x3, x9 => if x9 ≤ (x3.length : Int) then ((impl_ValueAt.f k x3 (wrap64 (12 * x9))).bind fun bt431 => (if bt431.2.2 = true then (if 0 ≤ (wrap64 (x9 - 1)) then (if (wrap64 (x9 - 1)) < (x3.length : Int) then (if (!(bt431.1 == ((rd_T30 x3 (wrap64 (x9 - 1))).f0)) || (!(bt431.2.1 == ((rd_T30 x3 (wrap64 (x9 - 1))).f1)))) = true then (some false) else (laws_FnValueAtYears.l0 k x3 (wrap64 (x9 + 1)))) else (none)) else (none)) else (some false))) else (some true)
end
def laws_FnValueAtYears.f (k : Nat) (l0 : List Int) : Option (Bool) := if (l0.length : Int) > 1048576 then (some true) else ((spec_DrawValueAt.f k l0).bind fun bt419 => ((impl_ValueAt.f k bt419.1 bt419.2).bind fun bt423 => ((spec_ValueAt.f k bt419.1 bt419.2).bind fun bt427 => (if (!(bt423.1 == bt427.1) || (!(bt423.2.1 == bt427.2.1))) = true then (laws_FnValueAtYears.j0 k bt419.1 bt423.2.2 bt427.2.2 true bt423.1 bt423.2.1 bt427.1 bt427.2.1) else (if (bt423.2.2 != bt427.2.2) = true then (laws_FnValueAtYears.j0 k bt419.1 bt423.2.2 bt427.2.2 true bt423.1 bt423.2.1 bt427.1 bt427.2.1) else (laws_FnValueAtYears.j0 k bt419.1 bt423.2.2 bt427.2.2 (!bt423.2.2) bt423.1 bt423.2.1 bt427.1 bt427.2.1))))))
theorem laws_FnValueAtYears.mono_l : ∀ k, (∀ y0 y1 y2 y3 y4 y5 y6 y7, LeO (laws_FnValueAtYears.j0 k y0 y1 y2 y3 y4 y5 y6 y7) (laws_FnValueAtYears.j0 (k + 1) y0 y1 y2 y3 y4 y5 y6 y7)) ∧ (∀ y0 y1, LeO (laws_FnValueAtYears.l0 k y0 y1) (laws_FnValueAtYears.l0 (k + 1) y0 y1))
  | 0 => ⟨fun _ _ _ _ _ _ _ _ r h => by simp [laws_FnValueAtYears.j0] at h, fun _ _ r h => by simp [laws_FnValueAtYears.l0] at h⟩
  | k + 1 => by
    obtain ⟨ih0, ih1⟩ := laws_FnValueAtYears.mono_l k
    refine ⟨?_, ?_⟩
    · intro y0 y1 y2 y3 y4 y5 y6 y7
      unfold laws_FnValueAtYears.j0
      repeat' first
      | (with_reducible exact ih0 _ _ _ _ _ _ _ _)
      | (with_reducible exact ih1 _ _)
      | (with_reducible exact impl_ValueAt.mono _ _ _)
      | (with_reducible exact spec_DrawValueAt.mono _ _)
      | (with_reducible exact spec_ValueAt.mono _ _ _)
      | (with_reducible exact LeO.refl _)
      | (with_reducible exact LeO.none _)
      | (with_reducible refine LeO.ite ?_ ?_)
      | (with_reducible refine LeO.bind ?_ (fun _ => ?_))
      | exact ih0 _ _ _ _ _ _ _ _
      | exact ih1 _ _
      | exact impl_ValueAt.mono _ _ _
      | exact spec_DrawValueAt.mono _ _
      | exact spec_ValueAt.mono _ _ _
      | exact LeO.none _
      | refine LeO.ite ?_ ?_
      | refine LeO.bind ?_ (fun _ => ?_)
    · intro y0 y1
      unfold laws_FnValueAtYears.l0
      repeat' first
      | (with_reducible exact ih0 _ _ _ _ _ _ _ _)
      | (with_reducible exact ih1 _ _)
      | (with_reducible exact impl_ValueAt.mono _ _ _)
      | (with_reducible exact spec_DrawValueAt.mono _ _)
      | (with_reducible exact spec_ValueAt.mono _ _ _)
      | (with_reducible exact LeO.refl _)
      | (with_reducible exact LeO.none _)
      | (with_reducible refine LeO.ite ?_ ?_)
      | (with_reducible refine LeO.bind ?_ (fun _ => ?_))
      | exact ih0 _ _ _ _ _ _ _ _
      | exact ih1 _ _
      | exact impl_ValueAt.mono _ _ _
      | exact spec_DrawValueAt.mono _ _
      | exact spec_ValueAt.mono _ _ _
      | exact LeO.none _
      | refine LeO.ite ?_ ?_
      | refine LeO.bind ?_ (fun _ => ?_)
theorem laws_FnValueAtYears.mono : ∀ a0 k, LeO (laws_FnValueAtYears.f k a0) (laws_FnValueAtYears.f (k + 1) a0) := by
  intro a0 k
  obtain ⟨ih0, ih1⟩ := laws_FnValueAtYears.mono_l k
  unfold laws_FnValueAtYears.f
  repeat' first
      | (with_reducible exact ih0 _ _ _ _ _ _ _ _)
      | (with_reducible exact ih1 _ _)
      | (with_reducible exact impl_ValueAt.mono _ _ _)
      | (with_reducible exact spec_DrawValueAt.mono _ _)
      | (with_reducible exact spec_ValueAt.mono _ _ _)
      | (with_reducible exact LeO.refl _)
      | (with_reducible exact LeO.none _)
      | (with_reducible refine LeO.ite ?_ ?_)
      | (with_reducible refine LeO.bind ?_ (fun _ => ?_))
      | exact ih0 _ _ _ _ _ _ _ _
      | exact ih1 _ _
      | exact impl_ValueAt.mono _ _ _
      | exact spec_DrawValueAt.mono _ _
      | exact spec_ValueAt.mono _ _ _
      | exact LeO.none _
      | refine LeO.ite ?_ ?_
      | refine LeO.bind ?_ (fun _ => ?_)
set_option maxHeartbeats 8000000 in
set_option maxRecDepth 100000 in
theorem laws_FnValueAtYears.calls (k : Nat) (A0 : Option Addr) (c0 : Nat) (l0 : List Int) (r : Bool) (w : World) (hr0 : Kd.C (Kd.int .u8) w A0 l0.length l0) (hc0 : l0.length ≤ c0) (hT : Tab w) (h : laws_FnValueAtYears.f k l0 = some r) :
    Calls Tryd.prog 7 #[.slice A0 l0.length c0] w fun e w' => e = .returned (.bool r) ∧ Below w.heap.size w w' := by
  have hu30 := Tryd.underlying30
  have HTab := Aside0.mk hT
  clear hT
  have HR0 := Aside0.mk hr0
  have HC0 := Aside0.mk hc0
  clear hr0 hc0
  have HB := Aside0.mk (Below.refl w.heap.size w)
  have H : (if (l0.length : Int) > 1048576 then (some true) else ((spec_DrawValueAt.f k l0).bind fun bt419 => ((impl_ValueAt.f k bt419.1 bt419.2).bind fun bt423 => ((spec_ValueAt.f k bt419.1 bt419.2).bind fun bt427 => (if (!(bt423.1 == bt427.1) || (!(bt423.2.1 == bt427.2.1))) = true then (laws_FnValueAtYears.j0 k bt419.1 bt423.2.2 bt427.2.2 true bt423.1 bt423.2.1 bt427.1 bt427.2.1) else (if (bt423.2.2 != bt427.2.2) = true then (laws_FnValueAtYears.j0 k bt419.1 bt423.2.2 bt427.2.2 true bt423.1 bt423.2.1 bt427.1 bt427.2.1) else (laws_FnValueAtYears.j0 k bt419.1 bt423.2.2 bt427.2.2 (!bt423.2.2) bt423.1 bt423.2.1 bt427.1 bt427.2.1))))))) = some r := h
  clear h
  by_cases c2 : (l0.length : Int) > 1048576
  · rw [if_pos c2] at H
    have c2b0 : decide (1048576 < (l0.length : Int)) = true := decide_eq_true c2
    have c2b1 : decide (1048576 < l0.length) = true := decide_eq_true (by omega)
    clear c2
    obtain rfl := Option.some.inj H
    go_enter Tryd.func7, Tryd.ntmps7
    go_wp2
    repeat (go_quiet (fail); try go_wp2)
    go_ret
    exact ⟨by first | rfl | (simp [errW_none, errW_some] <;> rfl) | (simp [*, errW_none, errW_some] <;> rfl), by repeat (first | (with_reducible first | exact HB.out | apply below_alloc | apply pw_below_drewN | apply below_drew1) | exact HB.out)⟩
  · rw [if_neg c2] at H
    have c2b0 : decide (1048576 < (l0.length : Int)) = false := decide_eq_false c2
    have c2b1 : decide (1048576 < l0.length) = false := decide_eq_false (by omega)
    clear c2
    replace H := Option.bind_eq_some_iff.mp H
    obtain ⟨⟨t419, t420⟩, A30, H⟩ := H
    replace H : ((impl_ValueAt.f k t419 t420).bind fun bt423 => ((spec_ValueAt.f k t419 t420).bind fun bt427 => (if (!(bt423.1 == bt427.1) || (!(bt423.2.1 == bt427.2.1))) = true then (laws_FnValueAtYears.j0 k t419 bt423.2.2 bt427.2.2 true bt423.1 bt423.2.1 bt427.1 bt427.2.1) else (if (bt423.2.2 != bt427.2.2) = true then (laws_FnValueAtYears.j0 k t419 bt423.2.2 bt427.2.2 true bt423.1 bt423.2.1 bt427.1 bt427.2.1) else (laws_FnValueAtYears.j0 k t419 bt423.2.2 bt427.2.2 (!bt423.2.2) bt423.1 bt423.2.1 bt427.1 bt427.2.1))))) = some r := H
    have A3 := Aside0.mk A30
    clear A30
    replace H := Option.bind_eq_some_iff.mp H
    obtain ⟨⟨t423, t424, t425⟩, A40, H⟩ := H
    replace H : ((spec_ValueAt.f k t419 t420).bind fun bt427 => (if (!(t423 == bt427.1) || (!(t424 == bt427.2.1))) = true then (laws_FnValueAtYears.j0 k t419 t425 bt427.2.2 true t423 t424 bt427.1 bt427.2.1) else (if (t425 != bt427.2.2) = true then (laws_FnValueAtYears.j0 k t419 t425 bt427.2.2 true t423 t424 bt427.1 bt427.2.1) else (laws_FnValueAtYears.j0 k t419 t425 bt427.2.2 (!t425) t423 t424 bt427.1 bt427.2.1)))) = some r := H
    have A4 := Aside0.mk A40
    clear A40
    replace H := Option.bind_eq_some_iff.mp H
    obtain ⟨⟨t427, t428, t429⟩, A50, H⟩ := H
    replace H : (if (!(t423 == t427) || (!(t424 == t428))) = true then (laws_FnValueAtYears.j0 k t419 t425 t429 true t423 t424 t427 t428) else (if (t425 != t429) = true then (laws_FnValueAtYears.j0 k t419 t425 t429 true t423 t424 t427 t428) else (laws_FnValueAtYears.j0 k t419 t425 t429 (!t425) t423 t424 t427 t428))) = some r := H
    have A5 := Aside0.mk A50
    clear A50
    have HC6 := Aside0.mk H
    clear H
    go_enter Tryd.func7, Tryd.ntmps7
    go_upto_region 6 with (first | (go_at_call 16; (with_reducible refine (spec_DrawValueAt.calls k _ _ l0 t419 t420 _ ?side1 ?side2 A3.out).mono ?_); (case side1 => repeat (first | exact HR0.out | (with_reducible refine Kd.C_alloc ?_ _) | (with_reducible refine Kd.C_drewN ?_ _) | (with_reducible refine Kd.C_drew ?_))); (case side2 => exact HC0.out); rintro e w7 ⟨v421, rfl, ho0, hb⟩; have n0_ := Aside0.mk (Kd.R_lower ho0 (below_size (bl_ HB))); have n1_ := Aside0.mk (below_step (bl_ HB) hb); clear HB; have HO422 := n0_; have HB := n1_; clear n0_ n1_; (try clear hb); (try clear hb2); (try clear hk); (try clear hi); (try clear ho0); obtain ⟨Ao8, co8, eo8⟩ := Kd.R_slice HO422.out; subst eo8) | (go_at_call 17; (with_reducible refine (impl_ValueAt.calls k _ _ t419 t420 t423 t424 t425 _ ?side1 ?side2 ?side3 A4.out).mono ?_); (case side1 => repeat (first | exact (Kd.R_reads' HO422.out).2.2 | (with_reducible refine Kd.C_alloc ?_ _) | (with_reducible refine Kd.C_drewN ?_ _) | (with_reducible refine Kd.C_drew ?_))); (case side2 => exact (Kd.R_reads' HO422.out).2.1); (case side3 => first | exact HTab.out | exact Tab.below HTab.out (bl_ HB)); rintro e w9 ⟨rfl, hb⟩; have n0_ := Aside0.mk (Kd.R_below (kr_ HO422) hb); have n1_ := Aside0.mk (below_step (bl_ HB) hb); clear HO422; clear HB; have HO422 := n0_; have HB := n1_; clear n0_ n1_; (try clear hb); (try clear hb2); (try clear hk); (try clear hi)) | ((with_reducible refine gate_dst (N := 5) rfl ?_); refine box_event ?hg (N := 5) ?hd (cs := #[.int .i64 0, .int .i64 0]) (t := 30) ?hr ?_; (case hd => rfl); (case hg => rfl); (case hr => first | (go_simp; done) | (go_simp; rfl)); intro gb426 hg w10 hbox hb; have n0_ := Aside0.mk (Kd.R_below (Kd.R_elderB (kr_ HO422) gb426 (Nat.le_of_eq hg.symm)) hb); have n1_ := Aside0.mk (below_step (bl_ HB) hb); have n2_ := Aside0.mk (hbox); have n3_ := Aside0.mk ((by rw [hg]; exact (below_size (bl_ HB)) : w.heap.size ≤ gb426)); have n4_ := Aside0.mk ((by rw [hg]; exact (below_size (bl_ HB)) : w.heap.size ≤ gb426)); clear HO422; clear HB; have HO422 := n0_; have HB := n1_; have BK426 := n2_; have GW426 := n3_; have GE426 := n4_; clear n0_ n1_ n2_ n3_ n4_; clear hb hbox hg; have hcz11_0 : w10.cell? ⟨gb426, 0, none⟩ = some (.int .i64 0) := (blk_cell BK426.out 0).trans rfl; have hcz11_1 : w10.cell? ⟨gb426, 1, none⟩ = some (.int .i64 0) := (blk_cell BK426.out 1).trans rfl; have hfz11_0 := blk_frozen BK426.out 0; have hfz11_1 := blk_frozen BK426.out 1) | (go_at_call 18; (with_reducible refine (spec_ValueAt.calls k _ _ t419 t420 t427 t428 t429 _ ?side1 ?side2 A5.out).mono ?_); (case side1 => refine (Kd.R_reads' (e := 30) (base := w.heap.size) (ok := fun k_ => (True ∧ k_ ≠ gb426)) (n := t419.length) (c := co8) ?_).2.2; exact (by (with_reducible repeat (first | apply Kd.R_alloc | apply Kd.R_drewN | apply Kd.R_drew)); exact (Kd.R_mono (Kd.R_far (p := ⟨gb426, 1, none⟩) (Kd.R_far (p := ⟨gb426, 0, none⟩) (Kd.R_mono HO422.out (fun k_ hk => (⟨hk, hk.2⟩ : _ ∧ k_ ≠ gb426))) (fun _ hk => hk.2) (.int .i64 t423)) (fun _ hk => hk.2) (.int .i64 t424)) (fun _ h_ => h_.1)))); (case side2 => exact (Kd.R_reads' HO422.out).2.1); rintro e w12 ⟨rfl, hb⟩; have n0_ := Aside0.mk (Kd.R_below (by (with_reducible repeat (first | apply Kd.R_alloc | apply Kd.R_drewN | apply Kd.R_drew)); exact (Kd.R_mono (Kd.R_far (p := ⟨gb426, 1, none⟩) (Kd.R_far (p := ⟨gb426, 0, none⟩) (Kd.R_mono HO422.out (fun k_ hk => (⟨hk, hk.2⟩ : _ ∧ k_ ≠ gb426))) (fun _ hk => hk.2) (.int .i64 t423)) (fun _ hk => hk.2) (.int .i64 t424)) (fun _ h_ => h_.1))) hb); have n1_ := Aside0.mk (blk_below (g := gb426) (o := .cells #[.int .i64 t423, .int .i64 t424] 30 (0, 0)) (by (with_reducible repeat (first | refine blk_drewN ?_ _ | refine blk_drew ?_ | refine blk_alloc ?_ _)); refine blk_put (cs := #[.int .i64 t423, .int .i64 0]) ?_ 1 _ rfl; (with_reducible repeat (first | refine blk_drewN ?_ _ | refine blk_drew ?_ | refine blk_alloc ?_ _)); refine blk_put (cs := #[.int .i64 0, .int .i64 0]) ?_ 0 _ rfl; (with_reducible repeat (first | refine blk_drewN ?_ _ | refine blk_drew ?_ | refine blk_alloc ?_ _)); exact BK426.out) hb); have n2_ := Aside0.mk (below_step (bl_ HB) hb); clear HO422; clear BK426; clear HB; have HO422 := n0_; have BK426 := n1_; have HB := n2_; clear n0_ n1_ n2_; (try clear hb); (try clear hb2); (try clear hk); (try clear hi)) | ((with_reducible refine gate_dst (N := 7) rfl ?_); refine box_event ?hg (N := 7) ?hd (cs := #[.int .i64 0, .int .i64 0]) (t := 30) ?hr ?_; (case hd => rfl); (case hg => rfl); (case hr => first | (go_simp; done) | (go_simp; rfl)); intro gb430 hg w13 hbox hb; have n0_ := Aside0.mk (Kd.R_below (Kd.R_elderB (kr_ HO422) gb430 (Nat.le_of_eq hg.symm)) hb); have n1_ := Aside0.mk (blk_below (g := gb426) (o := .cells #[.int .i64 t423, .int .i64 t424] 30 (0, 0)) (bk_ BK426) hb); have n2_ := Aside0.mk (below_step (bl_ HB) hb); have n3_ := Aside0.mk (hbox); have n4_ := Aside0.mk ((by rw [hg]; exact (below_size (bl_ HB)) : w.heap.size ≤ gb430)); have n5_ := Aside0.mk ((by rw [hg]; exact (below_size (bl_ HB)) : w.heap.size ≤ gb430)); have n6_ := Aside0.mk ((by rw [hg]; exact Nat.ne_of_lt (blk_lt (g := gb426) (o := .cells #[.int .i64 t423, .int .i64 t424] 30 (0, 0)) (bk_ BK426)) : gb426 ≠ gb430)); have n7_ := Aside0.mk ((by rw [hg]; exact Nat.ne_of_gt (blk_lt (g := gb426) (o := .cells #[.int .i64 t423, .int .i64 t424] 30 (0, 0)) (bk_ BK426)) : gb430 ≠ gb426)); clear HO422; clear BK426; clear HB; have HO422 := n0_; have BK426 := n1_; have HB := n2_; have BK430 := n3_; have GW430 := n4_; have GE430 := n5_; have NB426_430 := n6_; have NB430_426 := n7_; clear n0_ n1_ n2_ n3_ n4_ n5_ n6_ n7_; clear hb hbox hg; have hnb14 := NB430_426.out; have hnc14 := NB426_430.out; have hcz15_0 : w13.cell? ⟨gb430, 0, none⟩ = some (.int .i64 0) := (blk_cell BK430.out 0).trans rfl; have hcz15_1 : w13.cell? ⟨gb430, 1, none⟩ = some (.int .i64 0) := (blk_cell BK430.out 1).trans rfl; have hfz15_0 := blk_frozen BK430.out 0; have hfz15_1 := blk_frozen BK430.out 1))
    repeat (go_quiet (first | (go_at_call 16; (with_reducible refine (spec_DrawValueAt.calls k _ _ l0 t419 t420 _ ?side1 ?side2 A3.out).mono ?_); (case side1 => repeat (first | exact HR0.out | (with_reducible refine Kd.C_alloc ?_ _) | (with_reducible refine Kd.C_drewN ?_ _) | (with_reducible refine Kd.C_drew ?_))); (case side2 => exact HC0.out); rintro e w7 ⟨v421, rfl, ho0, hb⟩; have n0_ := Aside0.mk (Kd.R_lower ho0 (below_size (bl_ HB))); have n1_ := Aside0.mk (below_step (bl_ HB) hb); clear HB; have HO422 := n0_; have HB := n1_; clear n0_ n1_; (try clear hb); (try clear hb2); (try clear hk); (try clear hi); (try clear ho0); obtain ⟨Ao8, co8, eo8⟩ := Kd.R_slice HO422.out; subst eo8) | (go_at_call 17; (with_reducible refine (impl_ValueAt.calls k _ _ t419 t420 t423 t424 t425 _ ?side1 ?side2 ?side3 A4.out).mono ?_); (case side1 => repeat (first | exact (Kd.R_reads' HO422.out).2.2 | (with_reducible refine Kd.C_alloc ?_ _) | (with_reducible refine Kd.C_drewN ?_ _) | (with_reducible refine Kd.C_drew ?_))); (case side2 => exact (Kd.R_reads' HO422.out).2.1); (case side3 => first | exact HTab.out | exact Tab.below HTab.out (bl_ HB)); rintro e w9 ⟨rfl, hb⟩; have n0_ := Aside0.mk (Kd.R_below (kr_ HO422) hb); have n1_ := Aside0.mk (below_step (bl_ HB) hb); clear HO422; clear HB; have HO422 := n0_; have HB := n1_; clear n0_ n1_; (try clear hb); (try clear hb2); (try clear hk); (try clear hi)) | ((with_reducible refine gate_dst (N := 5) rfl ?_); refine box_event ?hg (N := 5) ?hd (cs := #[.int .i64 0, .int .i64 0]) (t := 30) ?hr ?_; (case hd => rfl); (case hg => rfl); (case hr => first | (go_simp; done) | (go_simp; rfl)); intro gb426 hg w10 hbox hb; have n0_ := Aside0.mk (Kd.R_below (Kd.R_elderB (kr_ HO422) gb426 (Nat.le_of_eq hg.symm)) hb); have n1_ := Aside0.mk (below_step (bl_ HB) hb); have n2_ := Aside0.mk (hbox); have n3_ := Aside0.mk ((by rw [hg]; exact (below_size (bl_ HB)) : w.heap.size ≤ gb426)); have n4_ := Aside0.mk ((by rw [hg]; exact (below_size (bl_ HB)) : w.heap.size ≤ gb426)); clear HO422; clear HB; have HO422 := n0_; have HB := n1_; have BK426 := n2_; have GW426 := n3_; have GE426 := n4_; clear n0_ n1_ n2_ n3_ n4_; clear hb hbox hg; have hcz11_0 : w10.cell? ⟨gb426, 0, none⟩ = some (.int .i64 0) := (blk_cell BK426.out 0).trans rfl; have hcz11_1 : w10.cell? ⟨gb426, 1, none⟩ = some (.int .i64 0) := (blk_cell BK426.out 1).trans rfl; have hfz11_0 := blk_frozen BK426.out 0; have hfz11_1 := blk_frozen BK426.out 1) | (go_at_call 18; (with_reducible refine (spec_ValueAt.calls k _ _ t419 t420 t427 t428 t429 _ ?side1 ?side2 A5.out).mono ?_); (case side1 => refine (Kd.R_reads' (e := 30) (base := w.heap.size) (ok := fun k_ => (True ∧ k_ ≠ gb426)) (n := t419.length) (c := co8) ?_).2.2; exact (by (with_reducible repeat (first | apply Kd.R_alloc | apply Kd.R_drewN | apply Kd.R_drew)); exact (Kd.R_mono (Kd.R_far (p := ⟨gb426, 1, none⟩) (Kd.R_far (p := ⟨gb426, 0, none⟩) (Kd.R_mono HO422.out (fun k_ hk => (⟨hk, hk.2⟩ : _ ∧ k_ ≠ gb426))) (fun _ hk => hk.2) (.int .i64 t423)) (fun _ hk => hk.2) (.int .i64 t424)) (fun _ h_ => h_.1)))); (case side2 => exact (Kd.R_reads' HO422.out).2.1); rintro e w12 ⟨rfl, hb⟩; have n0_ := Aside0.mk (Kd.R_below (by (with_reducible repeat (first | apply Kd.R_alloc | apply Kd.R_drewN | apply Kd.R_drew)); exact (Kd.R_mono (Kd.R_far (p := ⟨gb426, 1, none⟩) (Kd.R_far (p := ⟨gb426, 0, none⟩) (Kd.R_mono HO422.out (fun k_ hk => (⟨hk, hk.2⟩ : _ ∧ k_ ≠ gb426))) (fun _ hk => hk.2) (.int .i64 t423)) (fun _ hk => hk.2) (.int .i64 t424)) (fun _ h_ => h_.1))) hb); have n1_ := Aside0.mk (blk_below (g := gb426) (o := .cells #[.int .i64 t423, .int .i64 t424] 30 (0, 0)) (by (with_reducible repeat (first | refine blk_drewN ?_ _ | refine blk_drew ?_ | refine blk_alloc ?_ _)); refine blk_put (cs := #[.int .i64 t423, .int .i64 0]) ?_ 1 _ rfl; (with_reducible repeat (first | refine blk_drewN ?_ _ | refine blk_drew ?_ | refine blk_alloc ?_ _)); refine blk_put (cs := #[.int .i64 0, .int .i64 0]) ?_ 0 _ rfl; (with_reducible repeat (first | refine blk_drewN ?_ _ | refine blk_drew ?_ | refine blk_alloc ?_ _)); exact BK426.out) hb); have n2_ := Aside0.mk (below_step (bl_ HB) hb); clear HO422; clear BK426; clear HB; have HO422 := n0_; have BK426 := n1_; have HB := n2_; clear n0_ n1_ n2_; (try clear hb); (try clear hb2); (try clear hk); (try clear hi)) | ((with_reducible refine gate_dst (N := 7) rfl ?_); refine box_event ?hg (N := 7) ?hd (cs := #[.int .i64 0, .int .i64 0]) (t := 30) ?hr ?_; (case hd => rfl); (case hg => rfl); (case hr => first | (go_simp; done) | (go_simp; rfl)); intro gb430 hg w13 hbox hb; have n0_ := Aside0.mk (Kd.R_below (Kd.R_elderB (kr_ HO422) gb430 (Nat.le_of_eq hg.symm)) hb); have n1_ := Aside0.mk (blk_below (g := gb426) (o := .cells #[.int .i64 t423, .int .i64 t424] 30 (0, 0)) (bk_ BK426) hb); have n2_ := Aside0.mk (below_step (bl_ HB) hb); have n3_ := Aside0.mk (hbox); have n4_ := Aside0.mk ((by rw [hg]; exact (below_size (bl_ HB)) : w.heap.size ≤ gb430)); have n5_ := Aside0.mk ((by rw [hg]; exact (below_size (bl_ HB)) : w.heap.size ≤ gb430)); have n6_ := Aside0.mk ((by rw [hg]; exact Nat.ne_of_lt (blk_lt (g := gb426) (o := .cells #[.int .i64 t423, .int .i64 t424] 30 (0, 0)) (bk_ BK426)) : gb426 ≠ gb430)); have n7_ := Aside0.mk ((by rw [hg]; exact Nat.ne_of_gt (blk_lt (g := gb426) (o := .cells #[.int .i64 t423, .int .i64 t424] 30 (0, 0)) (bk_ BK426)) : gb430 ≠ gb426)); clear HO422; clear BK426; clear HB; have HO422 := n0_; have BK426 := n1_; have HB := n2_; have BK430 := n3_; have GW430 := n4_; have GE430 := n5_; have NB426_430 := n6_; have NB430_426 := n7_; clear n0_ n1_ n2_ n3_ n4_ n5_ n6_ n7_; clear hb hbox hg; have hnb14 := NB430_426.out; have hnc14 := NB426_430.out; have hcz15_0 : w13.cell? ⟨gb430, 0, none⟩ = some (.int .i64 0) := (blk_cell BK430.out 0).trans rfl; have hcz15_1 : w13.cell? ⟨gb430, 1, none⟩ = some (.int .i64 0) := (blk_cell BK430.out 1).trans rfl; have hfz15_0 := blk_frozen BK430.out 0; have hfz15_1 := blk_frozen BK430.out 1)); go_upto_region 6 with (first | (go_at_call 16; (with_reducible refine (spec_DrawValueAt.calls k _ _ l0 t419 t420 _ ?side1 ?side2 A3.out).mono ?_); (case side1 => repeat (first | exact HR0.out | (with_reducible refine Kd.C_alloc ?_ _) | (with_reducible refine Kd.C_drewN ?_ _) | (with_reducible refine Kd.C_drew ?_))); (case side2 => exact HC0.out); rintro e w7 ⟨v421, rfl, ho0, hb⟩; have n0_ := Aside0.mk (Kd.R_lower ho0 (below_size (bl_ HB))); have n1_ := Aside0.mk (below_step (bl_ HB) hb); clear HB; have HO422 := n0_; have HB := n1_; clear n0_ n1_; (try clear hb); (try clear hb2); (try clear hk); (try clear hi); (try clear ho0); obtain ⟨Ao8, co8, eo8⟩ := Kd.R_slice HO422.out; subst eo8) | (go_at_call 17; (with_reducible refine (impl_ValueAt.calls k _ _ t419 t420 t423 t424 t425 _ ?side1 ?side2 ?side3 A4.out).mono ?_); (case side1 => repeat (first | exact (Kd.R_reads' HO422.out).2.2 | (with_reducible refine Kd.C_alloc ?_ _) | (with_reducible refine Kd.C_drewN ?_ _) | (with_reducible refine Kd.C_drew ?_))); (case side2 => exact (Kd.R_reads' HO422.out).2.1); (case side3 => first | exact HTab.out | exact Tab.below HTab.out (bl_ HB)); rintro e w9 ⟨rfl, hb⟩; have n0_ := Aside0.mk (Kd.R_below (kr_ HO422) hb); have n1_ := Aside0.mk (below_step (bl_ HB) hb); clear HO422; clear HB; have HO422 := n0_; have HB := n1_; clear n0_ n1_; (try clear hb); (try clear hb2); (try clear hk); (try clear hi)) | ((with_reducible refine gate_dst (N := 5) rfl ?_); refine box_event ?hg (N := 5) ?hd (cs := #[.int .i64 0, .int .i64 0]) (t := 30) ?hr ?_; (case hd => rfl); (case hg => rfl); (case hr => first | (go_simp; done) | (go_simp; rfl)); intro gb426 hg w10 hbox hb; have n0_ := Aside0.mk (Kd.R_below (Kd.R_elderB (kr_ HO422) gb426 (Nat.le_of_eq hg.symm)) hb); have n1_ := Aside0.mk (below_step (bl_ HB) hb); have n2_ := Aside0.mk (hbox); have n3_ := Aside0.mk ((by rw [hg]; exact (below_size (bl_ HB)) : w.heap.size ≤ gb426)); have n4_ := Aside0.mk ((by rw [hg]; exact (below_size (bl_ HB)) : w.heap.size ≤ gb426)); clear HO422; clear HB; have HO422 := n0_; have HB := n1_; have BK426 := n2_; have GW426 := n3_; have GE426 := n4_; clear n0_ n1_ n2_ n3_ n4_; clear hb hbox hg; have hcz11_0 : w10.cell? ⟨gb426, 0, none⟩ = some (.int .i64 0) := (blk_cell BK426.out 0).trans rfl; have hcz11_1 : w10.cell? ⟨gb426, 1, none⟩ = some (.int .i64 0) := (blk_cell BK426.out 1).trans rfl; have hfz11_0 := blk_frozen BK426.out 0; have hfz11_1 := blk_frozen BK426.out 1) | (go_at_call 18; (with_reducible refine (spec_ValueAt.calls k _ _ t419 t420 t427 t428 t429 _ ?side1 ?side2 A5.out).mono ?_); (case side1 => refine (Kd.R_reads' (e := 30) (base := w.heap.size) (ok := fun k_ => (True ∧ k_ ≠ gb426)) (n := t419.length) (c := co8) ?_).2.2; exact (by (with_reducible repeat (first | apply Kd.R_alloc | apply Kd.R_drewN | apply Kd.R_drew)); exact (Kd.R_mono (Kd.R_far (p := ⟨gb426, 1, none⟩) (Kd.R_far (p := ⟨gb426, 0, none⟩) (Kd.R_mono HO422.out (fun k_ hk => (⟨hk, hk.2⟩ : _ ∧ k_ ≠ gb426))) (fun _ hk => hk.2) (.int .i64 t423)) (fun _ hk => hk.2) (.int .i64 t424)) (fun _ h_ => h_.1)))); (case side2 => exact (Kd.R_reads' HO422.out).2.1); rintro e w12 ⟨rfl, hb⟩; have n0_ := Aside0.mk (Kd.R_below (by (with_reducible repeat (first | apply Kd.R_alloc | apply Kd.R_drewN | apply Kd.R_drew)); exact (Kd.R_mono (Kd.R_far (p := ⟨gb426, 1, none⟩) (Kd.R_far (p := ⟨gb426, 0, none⟩) (Kd.R_mono HO422.out (fun k_ hk => (⟨hk, hk.2⟩ : _ ∧ k_ ≠ gb426))) (fun _ hk => hk.2) (.int .i64 t423)) (fun _ hk => hk.2) (.int .i64 t424)) (fun _ h_ => h_.1))) hb); have n1_ := Aside0.mk (blk_below (g := gb426) (o := .cells #[.int .i64 t423, .int .i64 t424] 30 (0, 0)) (by (with_reducible repeat (first | refine blk_drewN ?_ _ | refine blk_drew ?_ | refine blk_alloc ?_ _)); refine blk_put (cs := #[.int .i64 t423, .int .i64 0]) ?_ 1 _ rfl; (with_reducible repeat (first | refine blk_drewN ?_ _ | refine blk_drew ?_ | refine blk_alloc ?_ _)); refine blk_put (cs := #[.int .i64 0, .int .i64 0]) ?_ 0 _ rfl; (with_reducible repeat (first | refine blk_drewN ?_ _ | refine blk_drew ?_ | refine blk_alloc ?_ _)); exact BK426.out) hb); have n2_ := Aside0.mk (below_step (bl_ HB) hb); clear HO422; clear BK426; clear HB; have HO422 := n0_; have BK426 := n1_; have HB := n2_; clear n0_ n1_ n2_; (try clear hb); (try clear hb2); (try clear hk); (try clear hi)) | ((with_reducible refine gate_dst (N := 7) rfl ?_); refine box_event ?hg (N := 7) ?hd (cs := #[.int .i64 0, .int .i64 0]) (t := 30) ?hr ?_; (case hd => rfl); (case hg => rfl); (case hr => first | (go_simp; done) | (go_simp; rfl)); intro gb430 hg w13 hbox hb; have n0_ := Aside0.mk (Kd.R_below (Kd.R_elderB (kr_ HO422) gb430 (Nat.le_of_eq hg.symm)) hb); have n1_ := Aside0.mk (blk_below (g := gb426) (o := .cells #[.int .i64 t423, .int .i64 t424] 30 (0, 0)) (bk_ BK426) hb); have n2_ := Aside0.mk (below_step (bl_ HB) hb); have n3_ := Aside0.mk (hbox); have n4_ := Aside0.mk ((by rw [hg]; exact (below_size (bl_ HB)) : w.heap.size ≤ gb430)); have n5_ := Aside0.mk ((by rw [hg]; exact (below_size (bl_ HB)) : w.heap.size ≤ gb430)); have n6_ := Aside0.mk ((by rw [hg]; exact Nat.ne_of_lt (blk_lt (g := gb426) (o := .cells #[.int .i64 t423, .int .i64 t424] 30 (0, 0)) (bk_ BK426)) : gb426 ≠ gb430)); have n7_ := Aside0.mk ((by rw [hg]; exact Nat.ne_of_gt (blk_lt (g := gb426) (o := .cells #[.int .i64 t423, .int .i64 t424] 30 (0, 0)) (bk_ BK426)) : gb430 ≠ gb426)); clear HO422; clear BK426; clear HB; have HO422 := n0_; have BK426 := n1_; have HB := n2_; have BK430 := n3_; have GW430 := n4_; have GE430 := n5_; have NB426_430 := n6_; have NB430_426 := n7_; clear n0_ n1_ n2_ n3_ n4_ n5_ n6_ n7_; clear hb hbox hg; have hnb14 := NB430_426.out; have hnc14 := NB426_430.out; have hcz15_0 : w13.cell? ⟨gb430, 0, none⟩ = some (.int .i64 0) := (blk_cell BK430.out 0).trans rfl; have hcz15_1 : w13.cell? ⟨gb430, 1, none⟩ = some (.int .i64 0) := (blk_cell BK430.out 1).trans rfl; have hfz15_0 := blk_frozen BK430.out 0; have hfz15_1 := blk_frozen BK430.out 1)))
    (try simp only [Act.put, sa_, sb_, sc_])
    go_cut [43] (fun v43 wc => ∃ (kq : Nat) (x43_5 : Bool), v43 = .bool x43_5 ∧ Aside0 (laws_FnValueAtYears.j0 kq t419 t425 t429 x43_5 t423 t424 t427 t428 = some r) ∧ Aside0 (kq ≤ k) ∧ Aside0 (Kd.R k30 30 wc w.heap.size (fun k_ => k_ ≠ gb426 ∧ k_ ≠ gb430) (.slice Ao8 t419.length co8) t419) ∧ Aside0 (wc.heap[gb426]? = some (.cells #[.int .i64 t423, .int .i64 t424] 30 (0, 0))) ∧ Aside0 (wc.heap[gb430]? = some (.cells #[.int .i64 t427, .int .i64 t428] 30 (0, 0))) ∧ Aside0 (Below w.heap.size w wc))
    case first =>
      have H := HC6.out
      clear HC6
      by_cases c16 : (!(t423 == t427) || (!(t424 == t428))) = true
      · rw [if_pos c16] at H
        have c16b0 : (!(t423 == t427) || (!(t424 == t428))) = true := c16
        clear c16
        (first | rw [c16b0] | (simp only [i64_w, i32_w]; rw [c16b0]) | skip)
        have H' := Aside0.mk H
        clear H
        have hnb17 := NB426_430.out
        have hnc17 := NB430_426.out
        have hcz18_0 : w13.cell? ⟨gb426, 0, none⟩ = some (.int .i64 t423) := (blk_cell BK426.out 0).trans rfl
        have hcz18_1 : w13.cell? ⟨gb426, 1, none⟩ = some (.int .i64 t424) := (blk_cell BK426.out 1).trans rfl
        have hfz18_0 := blk_frozen BK426.out 0
        have hfz18_1 := blk_frozen BK426.out 1
        have hcz19_0 : w13.cell? ⟨gb430, 0, none⟩ = some (.int .i64 0) := (blk_cell BK430.out 0).trans rfl
        have hcz19_1 : w13.cell? ⟨gb430, 1, none⟩ = some (.int .i64 0) := (blk_cell BK430.out 1).trans rfl
        have hfz19_0 := blk_frozen BK430.out 0
        have hfz19_1 := blk_frozen BK430.out 1
        go_wp2
        repeat (go_quiet (fail); try go_wp2)
        go_meet
        case rel => exact ⟨_, (true), (by first | rfl | (simp; done) | (simp [*]; done)), H', ⟨by first | omega | exact Nat.le_refl _⟩, ⟨by (with_reducible repeat (first | apply Kd.R_alloc | apply Kd.R_drewN | apply Kd.R_drew)); exact Kd.R_mono (Kd.R_far (p := ⟨gb430, 1, none⟩) (Kd.R_far (p := ⟨gb430, 0, none⟩) (Kd.R_mono HO422.out (fun k_ hk => (⟨hk, hk.2⟩ : _ ∧ k_ ≠ gb430))) (fun _ hk => hk.2) (.int .i64 t427)) (fun _ hk => hk.2) (.int .i64 t428)) (fun _ hk => ⟨hk.1.1.2, hk.1.2⟩)⟩, ⟨by (with_reducible repeat (first | refine blk_drewN ?_ _ | refine blk_drew ?_ | refine blk_alloc ?_ _)); refine blk_far ?_ NB426_430.out _; (with_reducible repeat (first | refine blk_drewN ?_ _ | refine blk_drew ?_ | refine blk_alloc ?_ _)); refine blk_far ?_ NB426_430.out _; (with_reducible repeat (first | refine blk_drewN ?_ _ | refine blk_drew ?_ | refine blk_alloc ?_ _)); exact BK426.out⟩, ⟨by (with_reducible repeat (first | refine blk_drewN ?_ _ | refine blk_drew ?_ | refine blk_alloc ?_ _)); refine blk_put (cs := #[.int .i64 t427, .int .i64 0]) ?_ 1 _ rfl; (with_reducible repeat (first | refine blk_drewN ?_ _ | refine blk_drew ?_ | refine blk_alloc ?_ _)); refine blk_put (cs := #[.int .i64 0, .int .i64 0]) ?_ 0 _ rfl; (with_reducible repeat (first | refine blk_drewN ?_ _ | refine blk_drew ?_ | refine blk_alloc ?_ _)); exact BK430.out⟩, ⟨by repeat (first | (with_reducible first | exact HB.out | apply below_alloc | apply pw_below_drewN | apply below_drew1 | refine below_set ?_ GE426.out | refine below_set ?_ GE430.out) | exact HB.out)⟩⟩
      · rw [if_neg c16] at H
        have c16b0 : (!(t423 == t427) || (!(t424 == t428))) = false := by simpa using c16
        clear c16
        (first | rw [c16b0] | (simp only [i64_w, i32_w]; rw [c16b0]) | skip)
        by_cases c20 : (t425 != t429) = true
        · rw [if_pos c20] at H
          have c20b0 : (t425 != t429) = true := c20
          (try (have c20b1 : decide (t425 = t429) = false := by simpa using c20))
          (try (have c20b2 : (t425 == t429) = false := by simpa using c20))
          (try (have c20b3 : ¬ (t425 = t429) := by simpa using c20))
          clear c20
          have H' := Aside0.mk H
          clear H
          have hnb21 := NB426_430.out
          have hnc21 := NB430_426.out
          have hcz22_0 : w13.cell? ⟨gb426, 0, none⟩ = some (.int .i64 t423) := (blk_cell BK426.out 0).trans rfl
          have hcz22_1 : w13.cell? ⟨gb426, 1, none⟩ = some (.int .i64 t424) := (blk_cell BK426.out 1).trans rfl
          have hfz22_0 := blk_frozen BK426.out 0
          have hfz22_1 := blk_frozen BK426.out 1
          have hcz23_0 : w13.cell? ⟨gb430, 0, none⟩ = some (.int .i64 0) := (blk_cell BK430.out 0).trans rfl
          have hcz23_1 : w13.cell? ⟨gb430, 1, none⟩ = some (.int .i64 0) := (blk_cell BK430.out 1).trans rfl
          have hfz23_0 := blk_frozen BK430.out 0
          have hfz23_1 := blk_frozen BK430.out 1
          go_wp2
          repeat (go_quiet (fail); try go_wp2)
          go_meet
          case rel => exact ⟨_, (true), (by first | rfl | (simp; done) | (simp [*]; done)), H', ⟨by first | omega | exact Nat.le_refl _⟩, ⟨by (with_reducible repeat (first | apply Kd.R_alloc | apply Kd.R_drewN | apply Kd.R_drew)); exact Kd.R_mono (Kd.R_far (p := ⟨gb430, 1, none⟩) (Kd.R_far (p := ⟨gb430, 0, none⟩) (Kd.R_mono HO422.out (fun k_ hk => (⟨hk, hk.2⟩ : _ ∧ k_ ≠ gb430))) (fun _ hk => hk.2) (.int .i64 t427)) (fun _ hk => hk.2) (.int .i64 t428)) (fun _ hk => ⟨hk.1.1.2, hk.1.2⟩)⟩, ⟨by (with_reducible repeat (first | refine blk_drewN ?_ _ | refine blk_drew ?_ | refine blk_alloc ?_ _)); refine blk_far ?_ NB426_430.out _; (with_reducible repeat (first | refine blk_drewN ?_ _ | refine blk_drew ?_ | refine blk_alloc ?_ _)); refine blk_far ?_ NB426_430.out _; (with_reducible repeat (first | refine blk_drewN ?_ _ | refine blk_drew ?_ | refine blk_alloc ?_ _)); exact BK426.out⟩, ⟨by (with_reducible repeat (first | refine blk_drewN ?_ _ | refine blk_drew ?_ | refine blk_alloc ?_ _)); refine blk_put (cs := #[.int .i64 t427, .int .i64 0]) ?_ 1 _ rfl; (with_reducible repeat (first | refine blk_drewN ?_ _ | refine blk_drew ?_ | refine blk_alloc ?_ _)); refine blk_put (cs := #[.int .i64 0, .int .i64 0]) ?_ 0 _ rfl; (with_reducible repeat (first | refine blk_drewN ?_ _ | refine blk_drew ?_ | refine blk_alloc ?_ _)); exact BK430.out⟩, ⟨by repeat (first | (with_reducible first | exact HB.out | apply below_alloc | apply pw_below_drewN | apply below_drew1 | refine below_set ?_ GE426.out | refine below_set ?_ GE430.out) | exact HB.out)⟩⟩
        · rw [if_neg c20] at H
          have c20b0 : (t425 != t429) = false := by simpa using c20
          (try (have c20b1 : decide (t425 = t429) = true := by simpa using c20))
          (try (have c20b2 : (t425 == t429) = true := by simpa using c20))
          clear c20
          have H' := Aside0.mk H
          clear H
          have hnb24 := NB426_430.out
          have hnc24 := NB430_426.out
          have hcz25_0 : w13.cell? ⟨gb426, 0, none⟩ = some (.int .i64 t423) := (blk_cell BK426.out 0).trans rfl
          have hcz25_1 : w13.cell? ⟨gb426, 1, none⟩ = some (.int .i64 t424) := (blk_cell BK426.out 1).trans rfl
          have hfz25_0 := blk_frozen BK426.out 0
          have hfz25_1 := blk_frozen BK426.out 1
          have hcz26_0 : w13.cell? ⟨gb430, 0, none⟩ = some (.int .i64 0) := (blk_cell BK430.out 0).trans rfl
          have hcz26_1 : w13.cell? ⟨gb430, 1, none⟩ = some (.int .i64 0) := (blk_cell BK430.out 1).trans rfl
          have hfz26_0 := blk_frozen BK430.out 0
          have hfz26_1 := blk_frozen BK430.out 1
          go_wp2
          repeat (go_quiet (fail); try go_wp2)
          go_meet
          case rel => exact ⟨_, (!t425), (by first | rfl | (simp; done) | (simp [*]; done)), H', ⟨by first | omega | exact Nat.le_refl _⟩, ⟨by (with_reducible repeat (first | apply Kd.R_alloc | apply Kd.R_drewN | apply Kd.R_drew)); exact Kd.R_mono (Kd.R_far (p := ⟨gb430, 1, none⟩) (Kd.R_far (p := ⟨gb430, 0, none⟩) (Kd.R_mono HO422.out (fun k_ hk => (⟨hk, hk.2⟩ : _ ∧ k_ ≠ gb430))) (fun _ hk => hk.2) (.int .i64 t427)) (fun _ hk => hk.2) (.int .i64 t428)) (fun _ hk => ⟨hk.1.1.2, hk.1.2⟩)⟩, ⟨by (with_reducible repeat (first | refine blk_drewN ?_ _ | refine blk_drew ?_ | refine blk_alloc ?_ _)); refine blk_far ?_ NB426_430.out _; (with_reducible repeat (first | refine blk_drewN ?_ _ | refine blk_drew ?_ | refine blk_alloc ?_ _)); refine blk_far ?_ NB426_430.out _; (with_reducible repeat (first | refine blk_drewN ?_ _ | refine blk_drew ?_ | refine blk_alloc ?_ _)); exact BK426.out⟩, ⟨by (with_reducible repeat (first | refine blk_drewN ?_ _ | refine blk_drew ?_ | refine blk_alloc ?_ _)); refine blk_put (cs := #[.int .i64 t427, .int .i64 0]) ?_ 1 _ rfl; (with_reducible repeat (first | refine blk_drewN ?_ _ | refine blk_drew ?_ | refine blk_alloc ?_ _)); refine blk_put (cs := #[.int .i64 0, .int .i64 0]) ?_ 0 _ rfl; (with_reducible repeat (first | refine blk_drewN ?_ _ | refine blk_drew ?_ | refine blk_alloc ?_ _)); exact BK430.out⟩, ⟨by repeat (first | (with_reducible first | exact HB.out | apply below_alloc | apply pw_below_drewN | apply below_drew1 | refine below_set ?_ GE426.out | refine below_set ?_ GE430.out) | exact HB.out)⟩⟩
    case rest =>
      clear HC6
      try clear c1
      try clear c2
      try clear c2b0
      try clear c2b1
      try clear p2
      try clear c7
      try clear c14
      try clear c16
      try clear c16b0
      try clear c17
      try clear c20
      try clear c20b0
      try clear c20b1
      try clear c20b2
      try clear c21
      try clear c24
      try clear hcz11_0
      try clear hcz11_1
      try clear hcz15_0
      try clear hcz15_1
      try clear hcz18_0
      try clear hcz18_1
      try clear hcz19_0
      try clear hcz19_1
      try clear hcz22_0
      try clear hcz22_1
      try clear hcz23_0
      try clear hcz23_1
      try clear hcz25_0
      try clear hcz25_1
      try clear hcz26_0
      try clear hcz26_1
      try clear hfz11_0
      try clear hfz11_1
      try clear hfz15_0
      try clear hfz15_1
      try clear hfz18_0
      try clear hfz18_1
      try clear hfz19_0
      try clear hfz19_1
      try clear hfz22_0
      try clear hfz22_1
      try clear hfz23_0
      try clear hfz23_1
      try clear hfz25_0
      try clear hfz25_1
      try clear hfz26_0
      try clear hfz26_1
      obtain ⟨kq, x43_5, rfl, HA, HJ5, HO_3, BK426, BK430, HB⟩ := hcut
      cases kq with
      | zero => exact absurd HA.out (by simp [laws_FnValueAtYears.j0])
      | succ kj5 =>
        have H := HA.out
        clear HA
        simp only [laws_FnValueAtYears.j0] at H
        by_cases c27 : x43_5 = true
        · subst c27
          have H1 : (if (t423 == t427 && (t424 == t428)) = true then (some (t425 == t429)) else (some false)) = some r := by rw [if_pos rfl] at H; exact H
          clear H
          have H := H1
          clear H1
          by_cases c28 : (t423 == t427 && (t424 == t428)) = true
          · rw [if_pos c28] at H
            have c28b0 : (t423 == t427 && (t424 == t428)) = true := c28
            (try (have c28b1 : decide (t423 = t427 && (t424 == t428)) = true := by simpa using c28))
            (try (have c28b2 : (t423 == t427 && (t424 == t428)) = true := by simpa using c28))
            clear c28
            obtain rfl := Option.some.inj H
            have hnb29 := NB426_430.out
            have hnc29 := NB430_426.out
            have hcz30_0 : wc.cell? ⟨gb426, 0, none⟩ = some (.int .i64 t423) := (blk_cell BK426.out 0).trans rfl
            have hcz30_1 : wc.cell? ⟨gb426, 1, none⟩ = some (.int .i64 t424) := (blk_cell BK426.out 1).trans rfl
            have hfz30_0 := blk_frozen BK426.out 0
            have hfz30_1 := blk_frozen BK426.out 1
            have hcz31_0 : wc.cell? ⟨gb430, 0, none⟩ = some (.int .i64 t427) := (blk_cell BK430.out 0).trans rfl
            have hcz31_1 : wc.cell? ⟨gb430, 1, none⟩ = some (.int .i64 t428) := (blk_cell BK430.out 1).trans rfl
            have hfz31_0 := blk_frozen BK430.out 0
            have hfz31_1 := blk_frozen BK430.out 1
            go_wp2
            repeat (go_quiet (fail); try go_wp2)
            go_ret
            exact ⟨by first | rfl | (simp [errW_none, errW_some] <;> rfl) | (simp [*, errW_none, errW_some] <;> rfl), by repeat (first | (with_reducible first | exact HB.out | apply below_alloc | apply pw_below_drewN | apply below_drew1 | refine below_set ?_ GE426.out | refine below_set ?_ GE430.out) | exact HB.out)⟩
          · rw [if_neg c28] at H
            have c28b0 : (t423 == t427 && (t424 == t428)) = false := by simpa using c28
            (try (have c28b1 : decide (t423 = t427 && (t424 == t428)) = false := by simpa using c28))
            (try (have c28b2 : (t423 == t427 && (t424 == t428)) = false := by simpa using c28))
            (try (have c28b3 : ¬ (t423 = t427 && (t424 == t428)) := by simpa using c28))
            clear c28
            obtain rfl := Option.some.inj H
            have hnb32 := NB426_430.out
            have hnc32 := NB430_426.out
            have hcz33_0 : wc.cell? ⟨gb426, 0, none⟩ = some (.int .i64 t423) := (blk_cell BK426.out 0).trans rfl
            have hcz33_1 : wc.cell? ⟨gb426, 1, none⟩ = some (.int .i64 t424) := (blk_cell BK426.out 1).trans rfl
            have hfz33_0 := blk_frozen BK426.out 0
            have hfz33_1 := blk_frozen BK426.out 1
            have hcz34_0 : wc.cell? ⟨gb430, 0, none⟩ = some (.int .i64 t427) := (blk_cell BK430.out 0).trans rfl
            have hcz34_1 : wc.cell? ⟨gb430, 1, none⟩ = some (.int .i64 t428) := (blk_cell BK430.out 1).trans rfl
            have hfz34_0 := blk_frozen BK430.out 0
            have hfz34_1 := blk_frozen BK430.out 1
            go_wp2
            repeat (go_quiet (fail); try go_wp2)
            go_ret
            exact ⟨by first | rfl | (simp [errW_none, errW_some] <;> rfl) | (simp [*, errW_none, errW_some] <;> rfl), by repeat (first | (with_reducible first | exact HB.out | apply below_alloc | apply pw_below_drewN | apply below_drew1 | refine below_set ?_ GE426.out | refine below_set ?_ GE430.out) | exact HB.out)⟩
        · replace c27 := Bool.eq_false_iff.mpr c27
          subst c27
          have H1 : (laws_FnValueAtYears.l0 kj5 t419 1) = some r := by rw [if_neg (show ¬ (false = true) by decide)] at H; exact H
          clear H
          have H := H1
          clear H1
          have H' := Aside0.mk H
          clear H
          go_wp2
          repeat (go_quiet (fail); try go_wp2)
          go_loopg [9] kj5 (fun kq v9 w' => ∃ (x9_2 : Int), v9 = .int .i64 x9_2 ∧ Aside0 (laws_FnValueAtYears.l0 kq t419 x9_2 = some r) ∧ Aside0 (kq ≤ kj5) ∧ Aside0 (Kd.R k30 30 w' w.heap.size (fun k_ => k_ ≠ gb426 ∧ k_ ≠ gb430) (.slice Ao8 t419.length co8) t419) ∧ Aside0 (w'.heap[gb426]? = some (.cells #[.int .i64 t423, .int .i64 t424] 30 (0, 0))) ∧ Aside0 (w'.heap[gb430]? = some (.cells #[.int .i64 t427, .int .i64 t428] 30 (0, 0))) ∧ Aside0 (Below w.heap.size w w'))
          case atStart => exact ⟨(1), (by first | rfl | (simp; done) | (simp [*]; done)), H', ⟨Nat.le_refl _⟩, ⟨by (with_reducible repeat (first | apply Kd.R_alloc | apply Kd.R_drewN | apply Kd.R_drew)); exact HO_3.out⟩, ⟨by (with_reducible repeat (first | refine blk_drewN ?_ _ | refine blk_drew ?_ | refine blk_alloc ?_ _)); exact BK426.out⟩, ⟨by (with_reducible repeat (first | refine blk_drewN ?_ _ | refine blk_drew ?_ | refine blk_alloc ?_ _)); exact BK430.out⟩, ⟨by repeat (first | (with_reducible first | exact HB.out | apply below_alloc | apply pw_below_drewN | apply below_drew1 | refine below_set ?_ GE426.out | refine below_set ?_ GE430.out) | exact HB.out)⟩⟩
          case round =>
            clear H'
            try clear c1
            try clear c2
            try clear c2b0
            try clear c2b1
            try clear p2
            try clear c3
            try clear c7
            try clear c14
            try clear c16
            try clear c16b0
            try clear c17
            try clear c20
            try clear c20b0
            try clear c20b1
            try clear c20b2
            try clear c21
            try clear c24
            try clear c27
            try clear c28
            try clear c28b0
            try clear c28b1
            try clear c28b2
            try clear c29
            try clear c32
            try clear hcz11_0
            try clear hcz11_1
            try clear hcz15_0
            try clear hcz15_1
            try clear hcz18_0
            try clear hcz18_1
            try clear hcz19_0
            try clear hcz19_1
            try clear hcz22_0
            try clear hcz22_1
            try clear hcz23_0
            try clear hcz23_1
            try clear hcz25_0
            try clear hcz25_1
            try clear hcz26_0
            try clear hcz26_1
            try clear hcz30_0
            try clear hcz30_1
            try clear hcz31_0
            try clear hcz31_1
            try clear hcz33_0
            try clear hcz33_1
            try clear hcz34_0
            try clear hcz34_1
            try clear hfz11_0
            try clear hfz11_1
            try clear hfz15_0
            try clear hfz15_1
            try clear hfz18_0
            try clear hfz18_1
            try clear hfz19_0
            try clear hfz19_1
            try clear hfz22_0
            try clear hfz22_1
            try clear hfz23_0
            try clear hfz23_1
            try clear hfz25_0
            try clear hfz25_1
            try clear hfz26_0
            try clear hfz26_1
            try clear hfz30_0
            try clear hfz30_1
            try clear hfz31_0
            try clear hfz31_1
            try clear hfz33_0
            try clear hfz33_1
            try clear hfz34_0
            try clear hfz34_1
            try clear p2
            obtain ⟨x9_2, rfl, HA, HK2, HO_3, BK426, BK430, HB⟩ := hrel
            cases gk with
            | zero => exact absurd HA.out (by simp [laws_FnValueAtYears.l0])
            | succ k2 =>
              have H := HA.out
              clear HA
              simp only [laws_FnValueAtYears.l0] at H
              by_cases c35 : x9_2 ≤ (t419.length : Int)
              · rw [if_pos c35] at H
                have c35b0 : decide (x9_2 ≤ (t419.length : Int)) = true := decide_eq_true c35
                clear c35
                replace H := Option.bind_eq_some_iff.mp H
                obtain ⟨⟨t431, t432, t433⟩, A360, H⟩ := H
                replace H : (if t433 = true then (if 0 ≤ (wrap64 (x9_2 - 1)) then (if (wrap64 (x9_2 - 1)) < (t419.length : Int) then (if (!(t431 == ((rd_T30 t419 (wrap64 (x9_2 - 1))).f0)) || (!(t432 == ((rd_T30 t419 (wrap64 (x9_2 - 1))).f1)))) = true then (some false) else (laws_FnValueAtYears.l0 k2 t419 (wrap64 (x9_2 + 1)))) else (none)) else (none)) else (some false)) = some r := H
                have A36 := Aside0.mk A360
                clear A360
                by_cases c37 : t433 = true
                · subst c37
                  have H1 : (if 0 ≤ (wrap64 (x9_2 - 1)) then (if (wrap64 (x9_2 - 1)) < (t419.length : Int) then (if (!(t431 == ((rd_T30 t419 (wrap64 (x9_2 - 1))).f0)) || (!(t432 == ((rd_T30 t419 (wrap64 (x9_2 - 1))).f1)))) = true then (some false) else (laws_FnValueAtYears.l0 k2 t419 (wrap64 (x9_2 + 1)))) else (none)) else (none)) = some r := by rw [if_pos rfl] at H; exact H
                  clear H
                  have H := H1
                  clear H1
                  obtain ⟨ji38, hji38⟩ : ∃ j_ : Int, (wrap64 (x9_2 - 1)) = j_ := ⟨_, rfl⟩
                  replace H : (if 0 ≤ (ji38) then (if (ji38) < (t419.length : Int) then (if (!(t431 == ((rd_T30 t419 (ji38)).f0)) || (!(t432 == ((rd_T30 t419 (ji38)).f1)))) = true then (some false) else (laws_FnValueAtYears.l0 k2 t419 (wrap64 (x9_2 + 1)))) else (none)) else (none)) = some r := by first | (rw [hji38] at H; exact H) | (simp only [hji38] at H ⊢; exact H)
                  (try rw [hji38] at A36)
                  have hji38w : (IntKind.i64.wrap (x9_2 - 1)) = ji38 := (i64_w _).trans hji38
                  by_cases c39 : 0 ≤ (ji38)
                  · rw [if_pos c39] at H
                    have c39b0 : decide (0 ≤ (ji38)) = true := decide_eq_true c39
                    clear c39
                    by_cases c40 : (ji38) < (t419.length : Int)
                    · rw [if_pos c40] at H
                      have c40b0 : decide ((ji38) < (t419.length : Int)) = true := decide_eq_true c40
                      clear c40
                      by_cases c41 : (!(t431 == ((rd_T30 t419 (ji38)).f0)) || (!(t432 == ((rd_T30 t419 (ji38)).f1)))) = true
                      · rw [if_pos c41] at H
                        have c41b0 : (!(t431 == ((rd_T30 t419 (ji38)).f0)) || (!(t432 == ((rd_T30 t419 (ji38)).f1)))) = true := c41
                        clear c41
                        obtain rfl := Option.some.inj H
                        go_wp2_with (first | (go_at_call 17; (with_reducible refine (impl_ValueAt.calls k2 _ _ t419 (wrap64 (12 * x9_2)) t431 t432 true _ ?side1 ?side2 ?side3 A36.out).mono ?_); (case side1 => repeat (first | exact (Kd.R_reads' HO_3.out).2.2 | (with_reducible refine Kd.C_alloc ?_ _) | (with_reducible refine Kd.C_drewN ?_ _) | (with_reducible refine Kd.C_drew ?_))); (case side2 => exact (Kd.R_reads' HO_3.out).2.1); (case side3 => first | exact HTab.out | exact Tab.below HTab.out (bl_ HB)); rintro e w42 ⟨rfl, hb⟩; have n0_ := Aside0.mk (Kd.R_below (kr_ HO_3) hb); have n1_ := Aside0.mk (blk_below (g := gb426) (o := .cells #[.int .i64 t423, .int .i64 t424] 30 (0, 0)) (bk_ BK426) hb); have n2_ := Aside0.mk (blk_below (g := gb430) (o := .cells #[.int .i64 t427, .int .i64 t428] 30 (0, 0)) (bk_ BK430) hb); have n3_ := Aside0.mk (below_step (bl_ HB) hb); clear HO_3; clear BK426; clear BK430; clear HB; have HO_3 := n0_; have BK426 := n1_; have BK430 := n2_; have HB := n3_; clear n0_ n1_ n2_ n3_; (try clear hb); (try clear hb2); (try clear hk); (try clear hi)) | ((with_reducible refine gate_dst (N := 10) rfl ?_); refine box_event ?hg (N := 10) ?hd (cs := #[.int .i64 0, .int .i64 0]) (t := 30) ?hr ?_; (case hd => rfl); (case hg => rfl); (case hr => first | (go_simp; done) | (go_simp; rfl)); intro gb434 hg w43 hbox hb; have n0_ := Aside0.mk (Kd.R_below (Kd.R_elderB (kr_ HO_3) gb434 (Nat.le_of_eq hg.symm)) hb); have n1_ := Aside0.mk (blk_below (g := gb426) (o := .cells #[.int .i64 t423, .int .i64 t424] 30 (0, 0)) (bk_ BK426) hb); have n2_ := Aside0.mk (blk_below (g := gb430) (o := .cells #[.int .i64 t427, .int .i64 t428] 30 (0, 0)) (bk_ BK430) hb); have n3_ := Aside0.mk (below_step (bl_ HB) hb); have n4_ := Aside0.mk (hbox); have n5_ := Aside0.mk ((by rw [hg]; exact (below_size (bl_ HB)) : w.heap.size ≤ gb434)); have n6_ := Aside0.mk ((by rw [hg]; exact (below_size (bl_ HB)) : w.heap.size ≤ gb434)); have n7_ := Aside0.mk ((by rw [hg]; exact Nat.ne_of_lt (blk_lt (g := gb426) (o := .cells #[.int .i64 t423, .int .i64 t424] 30 (0, 0)) (bk_ BK426)) : gb426 ≠ gb434)); have n8_ := Aside0.mk ((by rw [hg]; exact Nat.ne_of_gt (blk_lt (g := gb426) (o := .cells #[.int .i64 t423, .int .i64 t424] 30 (0, 0)) (bk_ BK426)) : gb434 ≠ gb426)); have n9_ := Aside0.mk ((by rw [hg]; exact Nat.ne_of_lt (blk_lt (g := gb430) (o := .cells #[.int .i64 t427, .int .i64 t428] 30 (0, 0)) (bk_ BK430)) : gb430 ≠ gb434)); have n10_ := Aside0.mk ((by rw [hg]; exact Nat.ne_of_gt (blk_lt (g := gb430) (o := .cells #[.int .i64 t427, .int .i64 t428] 30 (0, 0)) (bk_ BK430)) : gb434 ≠ gb430)); clear HO_3; clear BK426; clear BK430; clear HB; have HO_3 := n0_; have BK426 := n1_; have BK430 := n2_; have HB := n3_; have BK434 := n4_; have GW434 := n5_; have GE434 := n6_; have NB426_434 := n7_; have NB434_426 := n8_; have NB430_434 := n9_; have NB434_430 := n10_; clear n0_ n1_ n2_ n3_ n4_ n5_ n6_ n7_ n8_ n9_ n10_; clear hb hbox hg; have hnb44 := NB434_426.out; have hnc44 := NB426_434.out; have hnb45 := NB434_430.out; have hnc45 := NB430_434.out; have hcz46_0 : w43.cell? ⟨gb434, 0, none⟩ = some (.int .i64 0) := (blk_cell BK434.out 0).trans rfl; have hcz46_1 : w43.cell? ⟨gb434, 1, none⟩ = some (.int .i64 0) := (blk_cell BK434.out 1).trans rfl; have hfz46_0 := blk_frozen BK434.out 0; have hfz46_1 := blk_frozen BK434.out 1; have p435 : 0 ≤ ((ji38) : Int) := of_decide_eq_true (by first | (with_reducible assumption) | assumption); have q435 : (ji38) < (t419.length : Int) := of_decide_eq_true (by first | (with_reducible assumption) | assumption); obtain ⟨ad435, e435, hx435_0, hx435_1⟩ := at_T30 (Kd.R_reads' HO_3.out).2.2 (ji38) p435 q435; cases e435; have hn435_0 : ad435.block ≠ gb434 := Kd.own_blk ((by first | exact Kd.R_ne HO_3.out BK434.out (by decide) | exact Kd.R_away HO_3.out (fun _ hk => by first | exact hk.2 | exact hk.1.2 | exact hk.2.1 | exact hk.2.2 | exact hk.1.1.2 | exact hk.2.2.1 | exact hk.2.2.2 | exact hk.1))); have hn435_1 : ad435.block ≠ gb434 := Kd.own_blk ((by first | exact Kd.R_ne HO_3.out BK434.out (by decide) | exact Kd.R_away HO_3.out (fun _ hk => by first | exact hk.2 | exact hk.1.2 | exact hk.2.1 | exact hk.2.2 | exact hk.1.1.2 | exact hk.2.2.1 | exact hk.2.2.2 | exact hk.1))); replace hx435_0 := (cell_far (p := ⟨gb434, 0, none⟩) (by first | (rw [add_block]; exact hn435_0) | (show (Addr.add _ _).block ≠ _; rw [add_block]; exact hn435_0) | exact hn435_0) (.int .i64 t431)).trans hx435_0; replace hx435_1 := (cell_far (p := ⟨gb434, 0, none⟩) (by first | (rw [add_block]; exact hn435_0) | (show (Addr.add _ _).block ≠ _; rw [add_block]; exact hn435_0) | exact hn435_0) (.int .i64 t431)).trans hx435_1; replace hx435_0 := (cell_far (p := ⟨gb434, 1, none⟩) (by first | (rw [add_block]; exact hn435_1) | (show (Addr.add _ _).block ≠ _; rw [add_block]; exact hn435_1) | exact hn435_1) (.int .i64 t432)).trans hx435_0; replace hx435_1 := (cell_far (p := ⟨gb434, 1, none⟩) (by first | (rw [add_block]; exact hn435_1) | (show (Addr.add _ _).block ≠ _; rw [add_block]; exact hn435_1) | exact hn435_1) (.int .i64 t432)).trans hx435_1; (try have hy435_0 := fun (n_ : Nat) => (show ((((w43.drewN n_).setCell ⟨gb434, 0, none⟩ (.int .i64 t431)).setCell ⟨gb434, 1, none⟩ (.int .i64 t432))).cell? _ = some _ from hx435_0)); (try have hy435_1 := fun (n_ : Nat) => (show ((((w43.drewN n_).setCell ⟨gb434, 0, none⟩ (.int .i64 t431)).setCell ⟨gb434, 1, none⟩ (.int .i64 t432))).cell? _ = some _ from hx435_1)); clear hn435_0; clear hn435_1; replace p435 := eq_true p435; replace q435 := eq_true q435))
                        repeat (go_quiet (first | (go_at_call 17; (with_reducible refine (impl_ValueAt.calls k2 _ _ t419 (wrap64 (12 * x9_2)) t431 t432 true _ ?side1 ?side2 ?side3 A36.out).mono ?_); (case side1 => repeat (first | exact (Kd.R_reads' HO_3.out).2.2 | (with_reducible refine Kd.C_alloc ?_ _) | (with_reducible refine Kd.C_drewN ?_ _) | (with_reducible refine Kd.C_drew ?_))); (case side2 => exact (Kd.R_reads' HO_3.out).2.1); (case side3 => first | exact HTab.out | exact Tab.below HTab.out (bl_ HB)); rintro e w42 ⟨rfl, hb⟩; have n0_ := Aside0.mk (Kd.R_below (kr_ HO_3) hb); have n1_ := Aside0.mk (blk_below (g := gb426) (o := .cells #[.int .i64 t423, .int .i64 t424] 30 (0, 0)) (bk_ BK426) hb); have n2_ := Aside0.mk (blk_below (g := gb430) (o := .cells #[.int .i64 t427, .int .i64 t428] 30 (0, 0)) (bk_ BK430) hb); have n3_ := Aside0.mk (below_step (bl_ HB) hb); clear HO_3; clear BK426; clear BK430; clear HB; have HO_3 := n0_; have BK426 := n1_; have BK430 := n2_; have HB := n3_; clear n0_ n1_ n2_ n3_; (try clear hb); (try clear hb2); (try clear hk); (try clear hi)) | ((with_reducible refine gate_dst (N := 10) rfl ?_); refine box_event ?hg (N := 10) ?hd (cs := #[.int .i64 0, .int .i64 0]) (t := 30) ?hr ?_; (case hd => rfl); (case hg => rfl); (case hr => first | (go_simp; done) | (go_simp; rfl)); intro gb434 hg w43 hbox hb; have n0_ := Aside0.mk (Kd.R_below (Kd.R_elderB (kr_ HO_3) gb434 (Nat.le_of_eq hg.symm)) hb); have n1_ := Aside0.mk (blk_below (g := gb426) (o := .cells #[.int .i64 t423, .int .i64 t424] 30 (0, 0)) (bk_ BK426) hb); have n2_ := Aside0.mk (blk_below (g := gb430) (o := .cells #[.int .i64 t427, .int .i64 t428] 30 (0, 0)) (bk_ BK430) hb); have n3_ := Aside0.mk (below_step (bl_ HB) hb); have n4_ := Aside0.mk (hbox); have n5_ := Aside0.mk ((by rw [hg]; exact (below_size (bl_ HB)) : w.heap.size ≤ gb434)); have n6_ := Aside0.mk ((by rw [hg]; exact (below_size (bl_ HB)) : w.heap.size ≤ gb434)); have n7_ := Aside0.mk ((by rw [hg]; exact Nat.ne_of_lt (blk_lt (g := gb426) (o := .cells #[.int .i64 t423, .int .i64 t424] 30 (0, 0)) (bk_ BK426)) : gb426 ≠ gb434)); have n8_ := Aside0.mk ((by rw [hg]; exact Nat.ne_of_gt (blk_lt (g := gb426) (o := .cells #[.int .i64 t423, .int .i64 t424] 30 (0, 0)) (bk_ BK426)) : gb434 ≠ gb426)); have n9_ := Aside0.mk ((by rw [hg]; exact Nat.ne_of_lt (blk_lt (g := gb430) (o := .cells #[.int .i64 t427, .int .i64 t428] 30 (0, 0)) (bk_ BK430)) : gb430 ≠ gb434)); have n10_ := Aside0.mk ((by rw [hg]; exact Nat.ne_of_gt (blk_lt (g := gb430) (o := .cells #[.int .i64 t427, .int .i64 t428] 30 (0, 0)) (bk_ BK430)) : gb434 ≠ gb430)); clear HO_3; clear BK426; clear BK430; clear HB; have HO_3 := n0_; have BK426 := n1_; have BK430 := n2_; have HB := n3_; have BK434 := n4_; have GW434 := n5_; have GE434 := n6_; have NB426_434 := n7_; have NB434_426 := n8_; have NB430_434 := n9_; have NB434_430 := n10_; clear n0_ n1_ n2_ n3_ n4_ n5_ n6_ n7_ n8_ n9_ n10_; clear hb hbox hg; have hnb44 := NB434_426.out; have hnc44 := NB426_434.out; have hnb45 := NB434_430.out; have hnc45 := NB430_434.out; have hcz46_0 : w43.cell? ⟨gb434, 0, none⟩ = some (.int .i64 0) := (blk_cell BK434.out 0).trans rfl; have hcz46_1 : w43.cell? ⟨gb434, 1, none⟩ = some (.int .i64 0) := (blk_cell BK434.out 1).trans rfl; have hfz46_0 := blk_frozen BK434.out 0; have hfz46_1 := blk_frozen BK434.out 1; have p435 : 0 ≤ ((ji38) : Int) := of_decide_eq_true (by first | (with_reducible assumption) | assumption); have q435 : (ji38) < (t419.length : Int) := of_decide_eq_true (by first | (with_reducible assumption) | assumption); obtain ⟨ad435, e435, hx435_0, hx435_1⟩ := at_T30 (Kd.R_reads' HO_3.out).2.2 (ji38) p435 q435; cases e435; have hn435_0 : ad435.block ≠ gb434 := Kd.own_blk ((by first | exact Kd.R_ne HO_3.out BK434.out (by decide) | exact Kd.R_away HO_3.out (fun _ hk => by first | exact hk.2 | exact hk.1.2 | exact hk.2.1 | exact hk.2.2 | exact hk.1.1.2 | exact hk.2.2.1 | exact hk.2.2.2 | exact hk.1))); have hn435_1 : ad435.block ≠ gb434 := Kd.own_blk ((by first | exact Kd.R_ne HO_3.out BK434.out (by decide) | exact Kd.R_away HO_3.out (fun _ hk => by first | exact hk.2 | exact hk.1.2 | exact hk.2.1 | exact hk.2.2 | exact hk.1.1.2 | exact hk.2.2.1 | exact hk.2.2.2 | exact hk.1))); replace hx435_0 := (cell_far (p := ⟨gb434, 0, none⟩) (by first | (rw [add_block]; exact hn435_0) | (show (Addr.add _ _).block ≠ _; rw [add_block]; exact hn435_0) | exact hn435_0) (.int .i64 t431)).trans hx435_0; replace hx435_1 := (cell_far (p := ⟨gb434, 0, none⟩) (by first | (rw [add_block]; exact hn435_0) | (show (Addr.add _ _).block ≠ _; rw [add_block]; exact hn435_0) | exact hn435_0) (.int .i64 t431)).trans hx435_1; replace hx435_0 := (cell_far (p := ⟨gb434, 1, none⟩) (by first | (rw [add_block]; exact hn435_1) | (show (Addr.add _ _).block ≠ _; rw [add_block]; exact hn435_1) | exact hn435_1) (.int .i64 t432)).trans hx435_0; replace hx435_1 := (cell_far (p := ⟨gb434, 1, none⟩) (by first | (rw [add_block]; exact hn435_1) | (show (Addr.add _ _).block ≠ _; rw [add_block]; exact hn435_1) | exact hn435_1) (.int .i64 t432)).trans hx435_1; (try have hy435_0 := fun (n_ : Nat) => (show ((((w43.drewN n_).setCell ⟨gb434, 0, none⟩ (.int .i64 t431)).setCell ⟨gb434, 1, none⟩ (.int .i64 t432))).cell? _ = some _ from hx435_0)); (try have hy435_1 := fun (n_ : Nat) => (show ((((w43.drewN n_).setCell ⟨gb434, 0, none⟩ (.int .i64 t431)).setCell ⟨gb434, 1, none⟩ (.int .i64 t432))).cell? _ = some _ from hx435_1)); clear hn435_0; clear hn435_1; replace p435 := eq_true p435; replace q435 := eq_true q435)); try go_wp2_with (first | (go_at_call 17; (with_reducible refine (impl_ValueAt.calls k2 _ _ t419 (wrap64 (12 * x9_2)) t431 t432 true _ ?side1 ?side2 ?side3 A36.out).mono ?_); (case side1 => repeat (first | exact (Kd.R_reads' HO_3.out).2.2 | (with_reducible refine Kd.C_alloc ?_ _) | (with_reducible refine Kd.C_drewN ?_ _) | (with_reducible refine Kd.C_drew ?_))); (case side2 => exact (Kd.R_reads' HO_3.out).2.1); (case side3 => first | exact HTab.out | exact Tab.below HTab.out (bl_ HB)); rintro e w42 ⟨rfl, hb⟩; have n0_ := Aside0.mk (Kd.R_below (kr_ HO_3) hb); have n1_ := Aside0.mk (blk_below (g := gb426) (o := .cells #[.int .i64 t423, .int .i64 t424] 30 (0, 0)) (bk_ BK426) hb); have n2_ := Aside0.mk (blk_below (g := gb430) (o := .cells #[.int .i64 t427, .int .i64 t428] 30 (0, 0)) (bk_ BK430) hb); have n3_ := Aside0.mk (below_step (bl_ HB) hb); clear HO_3; clear BK426; clear BK430; clear HB; have HO_3 := n0_; have BK426 := n1_; have BK430 := n2_; have HB := n3_; clear n0_ n1_ n2_ n3_; (try clear hb); (try clear hb2); (try clear hk); (try clear hi)) | ((with_reducible refine gate_dst (N := 10) rfl ?_); refine box_event ?hg (N := 10) ?hd (cs := #[.int .i64 0, .int .i64 0]) (t := 30) ?hr ?_; (case hd => rfl); (case hg => rfl); (case hr => first | (go_simp; done) | (go_simp; rfl)); intro gb434 hg w43 hbox hb; have n0_ := Aside0.mk (Kd.R_below (Kd.R_elderB (kr_ HO_3) gb434 (Nat.le_of_eq hg.symm)) hb); have n1_ := Aside0.mk (blk_below (g := gb426) (o := .cells #[.int .i64 t423, .int .i64 t424] 30 (0, 0)) (bk_ BK426) hb); have n2_ := Aside0.mk (blk_below (g := gb430) (o := .cells #[.int .i64 t427, .int .i64 t428] 30 (0, 0)) (bk_ BK430) hb); have n3_ := Aside0.mk (below_step (bl_ HB) hb); have n4_ := Aside0.mk (hbox); have n5_ := Aside0.mk ((by rw [hg]; exact (below_size (bl_ HB)) : w.heap.size ≤ gb434)); have n6_ := Aside0.mk ((by rw [hg]; exact (below_size (bl_ HB)) : w.heap.size ≤ gb434)); have n7_ := Aside0.mk ((by rw [hg]; exact Nat.ne_of_lt (blk_lt (g := gb426) (o := .cells #[.int .i64 t423, .int .i64 t424] 30 (0, 0)) (bk_ BK426)) : gb426 ≠ gb434)); have n8_ := Aside0.mk ((by rw [hg]; exact Nat.ne_of_gt (blk_lt (g := gb426) (o := .cells #[.int .i64 t423, .int .i64 t424] 30 (0, 0)) (bk_ BK426)) : gb434 ≠ gb426)); have n9_ := Aside0.mk ((by rw [hg]; exact Nat.ne_of_lt (blk_lt (g := gb430) (o := .cells #[.int .i64 t427, .int .i64 t428] 30 (0, 0)) (bk_ BK430)) : gb430 ≠ gb434)); have n10_ := Aside0.mk ((by rw [hg]; exact Nat.ne_of_gt (blk_lt (g := gb430) (o := .cells #[.int .i64 t427, .int .i64 t428] 30 (0, 0)) (bk_ BK430)) : gb434 ≠ gb430)); clear HO_3; clear BK426; clear BK430; clear HB; have HO_3 := n0_; have BK426 := n1_; have BK430 := n2_; have HB := n3_; have BK434 := n4_; have GW434 := n5_; have GE434 := n6_; have NB426_434 := n7_; have NB434_426 := n8_; have NB430_434 := n9_; have NB434_430 := n10_; clear n0_ n1_ n2_ n3_ n4_ n5_ n6_ n7_ n8_ n9_ n10_; clear hb hbox hg; have hnb44 := NB434_426.out; have hnc44 := NB426_434.out; have hnb45 := NB434_430.out; have hnc45 := NB430_434.out; have hcz46_0 : w43.cell? ⟨gb434, 0, none⟩ = some (.int .i64 0) := (blk_cell BK434.out 0).trans rfl; have hcz46_1 : w43.cell? ⟨gb434, 1, none⟩ = some (.int .i64 0) := (blk_cell BK434.out 1).trans rfl; have hfz46_0 := blk_frozen BK434.out 0; have hfz46_1 := blk_frozen BK434.out 1; have p435 : 0 ≤ ((ji38) : Int) := of_decide_eq_true (by first | (with_reducible assumption) | assumption); have q435 : (ji38) < (t419.length : Int) := of_decide_eq_true (by first | (with_reducible assumption) | assumption); obtain ⟨ad435, e435, hx435_0, hx435_1⟩ := at_T30 (Kd.R_reads' HO_3.out).2.2 (ji38) p435 q435; cases e435; have hn435_0 : ad435.block ≠ gb434 := Kd.own_blk ((by first | exact Kd.R_ne HO_3.out BK434.out (by decide) | exact Kd.R_away HO_3.out (fun _ hk => by first | exact hk.2 | exact hk.1.2 | exact hk.2.1 | exact hk.2.2 | exact hk.1.1.2 | exact hk.2.2.1 | exact hk.2.2.2 | exact hk.1))); have hn435_1 : ad435.block ≠ gb434 := Kd.own_blk ((by first | exact Kd.R_ne HO_3.out BK434.out (by decide) | exact Kd.R_away HO_3.out (fun _ hk => by first | exact hk.2 | exact hk.1.2 | exact hk.2.1 | exact hk.2.2 | exact hk.1.1.2 | exact hk.2.2.1 | exact hk.2.2.2 | exact hk.1))); replace hx435_0 := (cell_far (p := ⟨gb434, 0, none⟩) (by first | (rw [add_block]; exact hn435_0) | (show (Addr.add _ _).block ≠ _; rw [add_block]; exact hn435_0) | exact hn435_0) (.int .i64 t431)).trans hx435_0; replace hx435_1 := (cell_far (p := ⟨gb434, 0, none⟩) (by first | (rw [add_block]; exact hn435_0) | (show (Addr.add _ _).block ≠ _; rw [add_block]; exact hn435_0) | exact hn435_0) (.int .i64 t431)).trans hx435_1; replace hx435_0 := (cell_far (p := ⟨gb434, 1, none⟩) (by first | (rw [add_block]; exact hn435_1) | (show (Addr.add _ _).block ≠ _; rw [add_block]; exact hn435_1) | exact hn435_1) (.int .i64 t432)).trans hx435_0; replace hx435_1 := (cell_far (p := ⟨gb434, 1, none⟩) (by first | (rw [add_block]; exact hn435_1) | (show (Addr.add _ _).block ≠ _; rw [add_block]; exact hn435_1) | exact hn435_1) (.int .i64 t432)).trans hx435_1; (try have hy435_0 := fun (n_ : Nat) => (show ((((w43.drewN n_).setCell ⟨gb434, 0, none⟩ (.int .i64 t431)).setCell ⟨gb434, 1, none⟩ (.int .i64 t432))).cell? _ = some _ from hx435_0)); (try have hy435_1 := fun (n_ : Nat) => (show ((((w43.drewN n_).setCell ⟨gb434, 0, none⟩ (.int .i64 t431)).setCell ⟨gb434, 1, none⟩ (.int .i64 t432))).cell? _ = some _ from hx435_1)); clear hn435_0; clear hn435_1; replace p435 := eq_true p435; replace q435 := eq_true q435)))
                        go_ret
                        exact ⟨by first | rfl | (simp [errW_none, errW_some] <;> rfl) | (simp only [← hji38]; first | rfl | (simp [errW_none, errW_some] <;> rfl)) | (simp [*, errW_none, errW_some] <;> rfl), by repeat (first | (with_reducible first | exact HB.out | apply below_alloc | apply pw_below_drewN | apply below_drew1 | refine below_set ?_ GE426.out | refine below_set ?_ GE430.out | refine below_set ?_ GE434.out) | exact HB.out)⟩
                      · rw [if_neg c41] at H
                        have c41b0 : (!(t431 == ((rd_T30 t419 (ji38)).f0)) || (!(t432 == ((rd_T30 t419 (ji38)).f1)))) = false := by simpa using c41
                        clear c41
                        have H' := Aside0.mk H
                        clear H
                        go_wp2_with (first | (go_at_call 17; (with_reducible refine (impl_ValueAt.calls k2 _ _ t419 (wrap64 (12 * x9_2)) t431 t432 true _ ?side1 ?side2 ?side3 A36.out).mono ?_); (case side1 => repeat (first | exact (Kd.R_reads' HO_3.out).2.2 | (with_reducible refine Kd.C_alloc ?_ _) | (with_reducible refine Kd.C_drewN ?_ _) | (with_reducible refine Kd.C_drew ?_))); (case side2 => exact (Kd.R_reads' HO_3.out).2.1); (case side3 => first | exact HTab.out | exact Tab.below HTab.out (bl_ HB)); rintro e w47 ⟨rfl, hb⟩; have n0_ := Aside0.mk (Kd.R_below (kr_ HO_3) hb); have n1_ := Aside0.mk (blk_below (g := gb426) (o := .cells #[.int .i64 t423, .int .i64 t424] 30 (0, 0)) (bk_ BK426) hb); have n2_ := Aside0.mk (blk_below (g := gb430) (o := .cells #[.int .i64 t427, .int .i64 t428] 30 (0, 0)) (bk_ BK430) hb); have n3_ := Aside0.mk (below_step (bl_ HB) hb); clear HO_3; clear BK426; clear BK430; clear HB; have HO_3 := n0_; have BK426 := n1_; have BK430 := n2_; have HB := n3_; clear n0_ n1_ n2_ n3_; (try clear hb); (try clear hb2); (try clear hk); (try clear hi)) | ((with_reducible refine gate_dst (N := 10) rfl ?_); refine box_event ?hg (N := 10) ?hd (cs := #[.int .i64 0, .int .i64 0]) (t := 30) ?hr ?_; (case hd => rfl); (case hg => rfl); (case hr => first | (go_simp; done) | (go_simp; rfl)); intro gb434 hg w48 hbox hb; have n0_ := Aside0.mk (Kd.R_below (Kd.R_elderB (kr_ HO_3) gb434 (Nat.le_of_eq hg.symm)) hb); have n1_ := Aside0.mk (blk_below (g := gb426) (o := .cells #[.int .i64 t423, .int .i64 t424] 30 (0, 0)) (bk_ BK426) hb); have n2_ := Aside0.mk (blk_below (g := gb430) (o := .cells #[.int .i64 t427, .int .i64 t428] 30 (0, 0)) (bk_ BK430) hb); have n3_ := Aside0.mk (below_step (bl_ HB) hb); have n4_ := Aside0.mk (hbox); have n5_ := Aside0.mk ((by rw [hg]; exact (below_size (bl_ HB)) : w.heap.size ≤ gb434)); have n6_ := Aside0.mk ((by rw [hg]; exact (below_size (bl_ HB)) : w.heap.size ≤ gb434)); have n7_ := Aside0.mk ((by rw [hg]; exact Nat.ne_of_lt (blk_lt (g := gb426) (o := .cells #[.int .i64 t423, .int .i64 t424] 30 (0, 0)) (bk_ BK426)) : gb426 ≠ gb434)); have n8_ := Aside0.mk ((by rw [hg]; exact Nat.ne_of_gt (blk_lt (g := gb426) (o := .cells #[.int .i64 t423, .int .i64 t424] 30 (0, 0)) (bk_ BK426)) : gb434 ≠ gb426)); have n9_ := Aside0.mk ((by rw [hg]; exact Nat.ne_of_lt (blk_lt (g := gb430) (o := .cells #[.int .i64 t427, .int .i64 t428] 30 (0, 0)) (bk_ BK430)) : gb430 ≠ gb434)); have n10_ := Aside0.mk ((by rw [hg]; exact Nat.ne_of_gt (blk_lt (g := gb430) (o := .cells #[.int .i64 t427, .int .i64 t428] 30 (0, 0)) (bk_ BK430)) : gb434 ≠ gb430)); clear HO_3; clear BK426; clear BK430; clear HB; have HO_3 := n0_; have BK426 := n1_; have BK430 := n2_; have HB := n3_; have BK434 := n4_; have GW434 := n5_; have GE434 := n6_; have NB426_434 := n7_; have NB434_426 := n8_; have NB430_434 := n9_; have NB434_430 := n10_; clear n0_ n1_ n2_ n3_ n4_ n5_ n6_ n7_ n8_ n9_ n10_; clear hb hbox hg; have hnb49 := NB434_426.out; have hnc49 := NB426_434.out; have hnb50 := NB434_430.out; have hnc50 := NB430_434.out; have hcz51_0 : w48.cell? ⟨gb434, 0, none⟩ = some (.int .i64 0) := (blk_cell BK434.out 0).trans rfl; have hcz51_1 : w48.cell? ⟨gb434, 1, none⟩ = some (.int .i64 0) := (blk_cell BK434.out 1).trans rfl; have hfz51_0 := blk_frozen BK434.out 0; have hfz51_1 := blk_frozen BK434.out 1; have p435 : 0 ≤ ((ji38) : Int) := of_decide_eq_true (by first | (with_reducible assumption) | assumption); have q435 : (ji38) < (t419.length : Int) := of_decide_eq_true (by first | (with_reducible assumption) | assumption); obtain ⟨ad435, e435, hx435_0, hx435_1⟩ := at_T30 (Kd.R_reads' HO_3.out).2.2 (ji38) p435 q435; cases e435; have hn435_0 : ad435.block ≠ gb434 := Kd.own_blk ((by first | exact Kd.R_ne HO_3.out BK434.out (by decide) | exact Kd.R_away HO_3.out (fun _ hk => by first | exact hk.2 | exact hk.1.2 | exact hk.2.1 | exact hk.2.2 | exact hk.1.1.2 | exact hk.2.2.1 | exact hk.2.2.2 | exact hk.1))); have hn435_1 : ad435.block ≠ gb434 := Kd.own_blk ((by first | exact Kd.R_ne HO_3.out BK434.out (by decide) | exact Kd.R_away HO_3.out (fun _ hk => by first | exact hk.2 | exact hk.1.2 | exact hk.2.1 | exact hk.2.2 | exact hk.1.1.2 | exact hk.2.2.1 | exact hk.2.2.2 | exact hk.1))); replace hx435_0 := (cell_far (p := ⟨gb434, 0, none⟩) (by first | (rw [add_block]; exact hn435_0) | (show (Addr.add _ _).block ≠ _; rw [add_block]; exact hn435_0) | exact hn435_0) (.int .i64 t431)).trans hx435_0; replace hx435_1 := (cell_far (p := ⟨gb434, 0, none⟩) (by first | (rw [add_block]; exact hn435_0) | (show (Addr.add _ _).block ≠ _; rw [add_block]; exact hn435_0) | exact hn435_0) (.int .i64 t431)).trans hx435_1; replace hx435_0 := (cell_far (p := ⟨gb434, 1, none⟩) (by first | (rw [add_block]; exact hn435_1) | (show (Addr.add _ _).block ≠ _; rw [add_block]; exact hn435_1) | exact hn435_1) (.int .i64 t432)).trans hx435_0; replace hx435_1 := (cell_far (p := ⟨gb434, 1, none⟩) (by first | (rw [add_block]; exact hn435_1) | (show (Addr.add _ _).block ≠ _; rw [add_block]; exact hn435_1) | exact hn435_1) (.int .i64 t432)).trans hx435_1; (try have hy435_0 := fun (n_ : Nat) => (show ((((w48.drewN n_).setCell ⟨gb434, 0, none⟩ (.int .i64 t431)).setCell ⟨gb434, 1, none⟩ (.int .i64 t432))).cell? _ = some _ from hx435_0)); (try have hy435_1 := fun (n_ : Nat) => (show ((((w48.drewN n_).setCell ⟨gb434, 0, none⟩ (.int .i64 t431)).setCell ⟨gb434, 1, none⟩ (.int .i64 t432))).cell? _ = some _ from hx435_1)); clear hn435_0; clear hn435_1; replace p435 := eq_true p435; replace q435 := eq_true q435))
                        repeat (go_quiet (first | (go_at_call 17; (with_reducible refine (impl_ValueAt.calls k2 _ _ t419 (wrap64 (12 * x9_2)) t431 t432 true _ ?side1 ?side2 ?side3 A36.out).mono ?_); (case side1 => repeat (first | exact (Kd.R_reads' HO_3.out).2.2 | (with_reducible refine Kd.C_alloc ?_ _) | (with_reducible refine Kd.C_drewN ?_ _) | (with_reducible refine Kd.C_drew ?_))); (case side2 => exact (Kd.R_reads' HO_3.out).2.1); (case side3 => first | exact HTab.out | exact Tab.below HTab.out (bl_ HB)); rintro e w47 ⟨rfl, hb⟩; have n0_ := Aside0.mk (Kd.R_below (kr_ HO_3) hb); have n1_ := Aside0.mk (blk_below (g := gb426) (o := .cells #[.int .i64 t423, .int .i64 t424] 30 (0, 0)) (bk_ BK426) hb); have n2_ := Aside0.mk (blk_below (g := gb430) (o := .cells #[.int .i64 t427, .int .i64 t428] 30 (0, 0)) (bk_ BK430) hb); have n3_ := Aside0.mk (below_step (bl_ HB) hb); clear HO_3; clear BK426; clear BK430; clear HB; have HO_3 := n0_; have BK426 := n1_; have BK430 := n2_; have HB := n3_; clear n0_ n1_ n2_ n3_; (try clear hb); (try clear hb2); (try clear hk); (try clear hi)) | ((with_reducible refine gate_dst (N := 10) rfl ?_); refine box_event ?hg (N := 10) ?hd (cs := #[.int .i64 0, .int .i64 0]) (t := 30) ?hr ?_; (case hd => rfl); (case hg => rfl); (case hr => first | (go_simp; done) | (go_simp; rfl)); intro gb434 hg w48 hbox hb; have n0_ := Aside0.mk (Kd.R_below (Kd.R_elderB (kr_ HO_3) gb434 (Nat.le_of_eq hg.symm)) hb); have n1_ := Aside0.mk (blk_below (g := gb426) (o := .cells #[.int .i64 t423, .int .i64 t424] 30 (0, 0)) (bk_ BK426) hb); have n2_ := Aside0.mk (blk_below (g := gb430) (o := .cells #[.int .i64 t427, .int .i64 t428] 30 (0, 0)) (bk_ BK430) hb); have n3_ := Aside0.mk (below_step (bl_ HB) hb); have n4_ := Aside0.mk (hbox); have n5_ := Aside0.mk ((by rw [hg]; exact (below_size (bl_ HB)) : w.heap.size ≤ gb434)); have n6_ := Aside0.mk ((by rw [hg]; exact (below_size (bl_ HB)) : w.heap.size ≤ gb434)); have n7_ := Aside0.mk ((by rw [hg]; exact Nat.ne_of_lt (blk_lt (g := gb426) (o := .cells #[.int .i64 t423, .int .i64 t424] 30 (0, 0)) (bk_ BK426)) : gb426 ≠ gb434)); have n8_ := Aside0.mk ((by rw [hg]; exact Nat.ne_of_gt (blk_lt (g := gb426) (o := .cells #[.int .i64 t423, .int .i64 t424] 30 (0, 0)) (bk_ BK426)) : gb434 ≠ gb426)); have n9_ := Aside0.mk ((by rw [hg]; exact Nat.ne_of_lt (blk_lt (g := gb430) (o := .cells #[.int .i64 t427, .int .i64 t428] 30 (0, 0)) (bk_ BK430)) : gb430 ≠ gb434)); have n10_ := Aside0.mk ((by rw [hg]; exact Nat.ne_of_gt (blk_lt (g := gb430) (o := .cells #[.int .i64 t427, .int .i64 t428] 30 (0, 0)) (bk_ BK430)) : gb434 ≠ gb430)); clear HO_3; clear BK426; clear BK430; clear HB; have HO_3 := n0_; have BK426 := n1_; have BK430 := n2_; have HB := n3_; have BK434 := n4_; have GW434 := n5_; have GE434 := n6_; have NB426_434 := n7_; have NB434_426 := n8_; have NB430_434 := n9_; have NB434_430 := n10_; clear n0_ n1_ n2_ n3_ n4_ n5_ n6_ n7_ n8_ n9_ n10_; clear hb hbox hg; have hnb49 := NB434_426.out; have hnc49 := NB426_434.out; have hnb50 := NB434_430.out; have hnc50 := NB430_434.out; have hcz51_0 : w48.cell? ⟨gb434, 0, none⟩ = some (.int .i64 0) := (blk_cell BK434.out 0).trans rfl; have hcz51_1 : w48.cell? ⟨gb434, 1, none⟩ = some (.int .i64 0) := (blk_cell BK434.out 1).trans rfl; have hfz51_0 := blk_frozen BK434.out 0; have hfz51_1 := blk_frozen BK434.out 1; have p435 : 0 ≤ ((ji38) : Int) := of_decide_eq_true (by first | (with_reducible assumption) | assumption); have q435 : (ji38) < (t419.length : Int) := of_decide_eq_true (by first | (with_reducible assumption) | assumption); obtain ⟨ad435, e435, hx435_0, hx435_1⟩ := at_T30 (Kd.R_reads' HO_3.out).2.2 (ji38) p435 q435; cases e435; have hn435_0 : ad435.block ≠ gb434 := Kd.own_blk ((by first | exact Kd.R_ne HO_3.out BK434.out (by decide) | exact Kd.R_away HO_3.out (fun _ hk => by first | exact hk.2 | exact hk.1.2 | exact hk.2.1 | exact hk.2.2 | exact hk.1.1.2 | exact hk.2.2.1 | exact hk.2.2.2 | exact hk.1))); have hn435_1 : ad435.block ≠ gb434 := Kd.own_blk ((by first | exact Kd.R_ne HO_3.out BK434.out (by decide) | exact Kd.R_away HO_3.out (fun _ hk => by first | exact hk.2 | exact hk.1.2 | exact hk.2.1 | exact hk.2.2 | exact hk.1.1.2 | exact hk.2.2.1 | exact hk.2.2.2 | exact hk.1))); replace hx435_0 := (cell_far (p := ⟨gb434, 0, none⟩) (by first | (rw [add_block]; exact hn435_0) | (show (Addr.add _ _).block ≠ _; rw [add_block]; exact hn435_0) | exact hn435_0) (.int .i64 t431)).trans hx435_0; replace hx435_1 := (cell_far (p := ⟨gb434, 0, none⟩) (by first | (rw [add_block]; exact hn435_0) | (show (Addr.add _ _).block ≠ _; rw [add_block]; exact hn435_0) | exact hn435_0) (.int .i64 t431)).trans hx435_1; replace hx435_0 := (cell_far (p := ⟨gb434, 1, none⟩) (by first | (rw [add_block]; exact hn435_1) | (show (Addr.add _ _).block ≠ _; rw [add_block]; exact hn435_1) | exact hn435_1) (.int .i64 t432)).trans hx435_0; replace hx435_1 := (cell_far (p := ⟨gb434, 1, none⟩) (by first | (rw [add_block]; exact hn435_1) | (show (Addr.add _ _).block ≠ _; rw [add_block]; exact hn435_1) | exact hn435_1) (.int .i64 t432)).trans hx435_1; (try have hy435_0 := fun (n_ : Nat) => (show ((((w48.drewN n_).setCell ⟨gb434, 0, none⟩ (.int .i64 t431)).setCell ⟨gb434, 1, none⟩ (.int .i64 t432))).cell? _ = some _ from hx435_0)); (try have hy435_1 := fun (n_ : Nat) => (show ((((w48.drewN n_).setCell ⟨gb434, 0, none⟩ (.int .i64 t431)).setCell ⟨gb434, 1, none⟩ (.int .i64 t432))).cell? _ = some _ from hx435_1)); clear hn435_0; clear hn435_1; replace p435 := eq_true p435; replace q435 := eq_true q435)); try go_wp2_with (first | (go_at_call 17; (with_reducible refine (impl_ValueAt.calls k2 _ _ t419 (wrap64 (12 * x9_2)) t431 t432 true _ ?side1 ?side2 ?side3 A36.out).mono ?_); (case side1 => repeat (first | exact (Kd.R_reads' HO_3.out).2.2 | (with_reducible refine Kd.C_alloc ?_ _) | (with_reducible refine Kd.C_drewN ?_ _) | (with_reducible refine Kd.C_drew ?_))); (case side2 => exact (Kd.R_reads' HO_3.out).2.1); (case side3 => first | exact HTab.out | exact Tab.below HTab.out (bl_ HB)); rintro e w47 ⟨rfl, hb⟩; have n0_ := Aside0.mk (Kd.R_below (kr_ HO_3) hb); have n1_ := Aside0.mk (blk_below (g := gb426) (o := .cells #[.int .i64 t423, .int .i64 t424] 30 (0, 0)) (bk_ BK426) hb); have n2_ := Aside0.mk (blk_below (g := gb430) (o := .cells #[.int .i64 t427, .int .i64 t428] 30 (0, 0)) (bk_ BK430) hb); have n3_ := Aside0.mk (below_step (bl_ HB) hb); clear HO_3; clear BK426; clear BK430; clear HB; have HO_3 := n0_; have BK426 := n1_; have BK430 := n2_; have HB := n3_; clear n0_ n1_ n2_ n3_; (try clear hb); (try clear hb2); (try clear hk); (try clear hi)) | ((with_reducible refine gate_dst (N := 10) rfl ?_); refine box_event ?hg (N := 10) ?hd (cs := #[.int .i64 0, .int .i64 0]) (t := 30) ?hr ?_; (case hd => rfl); (case hg => rfl); (case hr => first | (go_simp; done) | (go_simp; rfl)); intro gb434 hg w48 hbox hb; have n0_ := Aside0.mk (Kd.R_below (Kd.R_elderB (kr_ HO_3) gb434 (Nat.le_of_eq hg.symm)) hb); have n1_ := Aside0.mk (blk_below (g := gb426) (o := .cells #[.int .i64 t423, .int .i64 t424] 30 (0, 0)) (bk_ BK426) hb); have n2_ := Aside0.mk (blk_below (g := gb430) (o := .cells #[.int .i64 t427, .int .i64 t428] 30 (0, 0)) (bk_ BK430) hb); have n3_ := Aside0.mk (below_step (bl_ HB) hb); have n4_ := Aside0.mk (hbox); have n5_ := Aside0.mk ((by rw [hg]; exact (below_size (bl_ HB)) : w.heap.size ≤ gb434)); have n6_ := Aside0.mk ((by rw [hg]; exact (below_size (bl_ HB)) : w.heap.size ≤ gb434)); have n7_ := Aside0.mk ((by rw [hg]; exact Nat.ne_of_lt (blk_lt (g := gb426) (o := .cells #[.int .i64 t423, .int .i64 t424] 30 (0, 0)) (bk_ BK426)) : gb426 ≠ gb434)); have n8_ := Aside0.mk ((by rw [hg]; exact Nat.ne_of_gt (blk_lt (g := gb426) (o := .cells #[.int .i64 t423, .int .i64 t424] 30 (0, 0)) (bk_ BK426)) : gb434 ≠ gb426)); have n9_ := Aside0.mk ((by rw [hg]; exact Nat.ne_of_lt (blk_lt (g := gb430) (o := .cells #[.int .i64 t427, .int .i64 t428] 30 (0, 0)) (bk_ BK430)) : gb430 ≠ gb434)); have n10_ := Aside0.mk ((by rw [hg]; exact Nat.ne_of_gt (blk_lt (g := gb430) (o := .cells #[.int .i64 t427, .int .i64 t428] 30 (0, 0)) (bk_ BK430)) : gb434 ≠ gb430)); clear HO_3; clear BK426; clear BK430; clear HB; have HO_3 := n0_; have BK426 := n1_; have BK430 := n2_; have HB := n3_; have BK434 := n4_; have GW434 := n5_; have GE434 := n6_; have NB426_434 := n7_; have NB434_426 := n8_; have NB430_434 := n9_; have NB434_430 := n10_; clear n0_ n1_ n2_ n3_ n4_ n5_ n6_ n7_ n8_ n9_ n10_; clear hb hbox hg; have hnb49 := NB434_426.out; have hnc49 := NB426_434.out; have hnb50 := NB434_430.out; have hnc50 := NB430_434.out; have hcz51_0 : w48.cell? ⟨gb434, 0, none⟩ = some (.int .i64 0) := (blk_cell BK434.out 0).trans rfl; have hcz51_1 : w48.cell? ⟨gb434, 1, none⟩ = some (.int .i64 0) := (blk_cell BK434.out 1).trans rfl; have hfz51_0 := blk_frozen BK434.out 0; have hfz51_1 := blk_frozen BK434.out 1; have p435 : 0 ≤ ((ji38) : Int) := of_decide_eq_true (by first | (with_reducible assumption) | assumption); have q435 : (ji38) < (t419.length : Int) := of_decide_eq_true (by first | (with_reducible assumption) | assumption); obtain ⟨ad435, e435, hx435_0, hx435_1⟩ := at_T30 (Kd.R_reads' HO_3.out).2.2 (ji38) p435 q435; cases e435; have hn435_0 : ad435.block ≠ gb434 := Kd.own_blk ((by first | exact Kd.R_ne HO_3.out BK434.out (by decide) | exact Kd.R_away HO_3.out (fun _ hk => by first | exact hk.2 | exact hk.1.2 | exact hk.2.1 | exact hk.2.2 | exact hk.1.1.2 | exact hk.2.2.1 | exact hk.2.2.2 | exact hk.1))); have hn435_1 : ad435.block ≠ gb434 := Kd.own_blk ((by first | exact Kd.R_ne HO_3.out BK434.out (by decide) | exact Kd.R_away HO_3.out (fun _ hk => by first | exact hk.2 | exact hk.1.2 | exact hk.2.1 | exact hk.2.2 | exact hk.1.1.2 | exact hk.2.2.1 | exact hk.2.2.2 | exact hk.1))); replace hx435_0 := (cell_far (p := ⟨gb434, 0, none⟩) (by first | (rw [add_block]; exact hn435_0) | (show (Addr.add _ _).block ≠ _; rw [add_block]; exact hn435_0) | exact hn435_0) (.int .i64 t431)).trans hx435_0; replace hx435_1 := (cell_far (p := ⟨gb434, 0, none⟩) (by first | (rw [add_block]; exact hn435_0) | (show (Addr.add _ _).block ≠ _; rw [add_block]; exact hn435_0) | exact hn435_0) (.int .i64 t431)).trans hx435_1; replace hx435_0 := (cell_far (p := ⟨gb434, 1, none⟩) (by first | (rw [add_block]; exact hn435_1) | (show (Addr.add _ _).block ≠ _; rw [add_block]; exact hn435_1) | exact hn435_1) (.int .i64 t432)).trans hx435_0; replace hx435_1 := (cell_far (p := ⟨gb434, 1, none⟩) (by first | (rw [add_block]; exact hn435_1) | (show (Addr.add _ _).block ≠ _; rw [add_block]; exact hn435_1) | exact hn435_1) (.int .i64 t432)).trans hx435_1; (try have hy435_0 := fun (n_ : Nat) => (show ((((w48.drewN n_).setCell ⟨gb434, 0, none⟩ (.int .i64 t431)).setCell ⟨gb434, 1, none⟩ (.int .i64 t432))).cell? _ = some _ from hx435_0)); (try have hy435_1 := fun (n_ : Nat) => (show ((((w48.drewN n_).setCell ⟨gb434, 0, none⟩ (.int .i64 t431)).setCell ⟨gb434, 1, none⟩ (.int .i64 t432))).cell? _ = some _ from hx435_1)); clear hn435_0; clear hn435_1; replace p435 := eq_true p435; replace q435 := eq_true q435)))
                        go_roundg k2
                        case measure => have := HJ5.out; have := HK2.out; omega
                        case rel => exact ⟨(wrap64 (x9_2 + 1)), (by first | rfl | (simp; done) | (simp [*]; done)), H', ⟨by have := HJ5.out; have := HK2.out; omega⟩, ⟨by (with_reducible repeat (first | apply Kd.R_alloc | apply Kd.R_drewN | apply Kd.R_drew)); exact Kd.R_mono (Kd.R_far (p := ⟨gb434, 1, none⟩) (Kd.R_far (p := ⟨gb434, 0, none⟩) (Kd.R_mono HO_3.out (fun k_ hk => (⟨hk, hk.2⟩ : _ ∧ k_ ≠ gb434))) (fun _ hk => hk.2) (.int .i64 t431)) (fun _ hk => hk.2) (.int .i64 t432)) (fun _ hk => ⟨hk.1.1.1, hk.1.1.2⟩)⟩, ⟨by (with_reducible repeat (first | refine blk_drewN ?_ _ | refine blk_drew ?_ | refine blk_alloc ?_ _)); refine blk_far ?_ NB426_434.out _; (with_reducible repeat (first | refine blk_drewN ?_ _ | refine blk_drew ?_ | refine blk_alloc ?_ _)); refine blk_far ?_ NB426_434.out _; (with_reducible repeat (first | refine blk_drewN ?_ _ | refine blk_drew ?_ | refine blk_alloc ?_ _)); exact BK426.out⟩, ⟨by (with_reducible repeat (first | refine blk_drewN ?_ _ | refine blk_drew ?_ | refine blk_alloc ?_ _)); refine blk_far ?_ NB430_434.out _; (with_reducible repeat (first | refine blk_drewN ?_ _ | refine blk_drew ?_ | refine blk_alloc ?_ _)); refine blk_far ?_ NB430_434.out _; (with_reducible repeat (first | refine blk_drewN ?_ _ | refine blk_drew ?_ | refine blk_alloc ?_ _)); exact BK430.out⟩, ⟨by repeat (first | (with_reducible first | exact HB.out | apply below_alloc | apply pw_below_drewN | apply below_drew1 | refine below_set ?_ GE426.out | refine below_set ?_ GE430.out | refine below_set ?_ GE434.out) | exact HB.out)⟩⟩
                    · rw [if_neg c40] at H
                      exact absurd H (by simp)
                  · rw [if_neg c39] at H
                    exact absurd H (by simp)
                · replace c37 := Bool.eq_false_iff.mpr c37
                  subst c37
                  have H1 : (some false) = some r := by rw [if_neg (show ¬ (false = true) by decide)] at H; exact H
                  clear H
                  have H := H1
                  clear H1
                  obtain rfl := Option.some.inj H
                  go_wp2_with (first | (go_at_call 17; (with_reducible refine (impl_ValueAt.calls k2 _ _ t419 (wrap64 (12 * x9_2)) t431 t432 false _ ?side1 ?side2 ?side3 A36.out).mono ?_); (case side1 => repeat (first | exact (Kd.R_reads' HO_3.out).2.2 | (with_reducible refine Kd.C_alloc ?_ _) | (with_reducible refine Kd.C_drewN ?_ _) | (with_reducible refine Kd.C_drew ?_))); (case side2 => exact (Kd.R_reads' HO_3.out).2.1); (case side3 => first | exact HTab.out | exact Tab.below HTab.out (bl_ HB)); rintro e w52 ⟨rfl, hb⟩; have n0_ := Aside0.mk (Kd.R_below (kr_ HO_3) hb); have n1_ := Aside0.mk (blk_below (g := gb426) (o := .cells #[.int .i64 t423, .int .i64 t424] 30 (0, 0)) (bk_ BK426) hb); have n2_ := Aside0.mk (blk_below (g := gb430) (o := .cells #[.int .i64 t427, .int .i64 t428] 30 (0, 0)) (bk_ BK430) hb); have n3_ := Aside0.mk (below_step (bl_ HB) hb); clear HO_3; clear BK426; clear BK430; clear HB; have HO_3 := n0_; have BK426 := n1_; have BK430 := n2_; have HB := n3_; clear n0_ n1_ n2_ n3_; (try clear hb); (try clear hb2); (try clear hk); (try clear hi)) | ((with_reducible refine gate_dst (N := 10) rfl ?_); refine box_event ?hg (N := 10) ?hd (cs := #[.int .i64 0, .int .i64 0]) (t := 30) ?hr ?_; (case hd => rfl); (case hg => rfl); (case hr => first | (go_simp; done) | (go_simp; rfl)); intro gb434 hg w53 hbox hb; have n0_ := Aside0.mk (Kd.R_below (Kd.R_elderB (kr_ HO_3) gb434 (Nat.le_of_eq hg.symm)) hb); have n1_ := Aside0.mk (blk_below (g := gb426) (o := .cells #[.int .i64 t423, .int .i64 t424] 30 (0, 0)) (bk_ BK426) hb); have n2_ := Aside0.mk (blk_below (g := gb430) (o := .cells #[.int .i64 t427, .int .i64 t428] 30 (0, 0)) (bk_ BK430) hb); have n3_ := Aside0.mk (below_step (bl_ HB) hb); have n4_ := Aside0.mk (hbox); have n5_ := Aside0.mk ((by rw [hg]; exact (below_size (bl_ HB)) : w.heap.size ≤ gb434)); have n6_ := Aside0.mk ((by rw [hg]; exact (below_size (bl_ HB)) : w.heap.size ≤ gb434)); have n7_ := Aside0.mk ((by rw [hg]; exact Nat.ne_of_lt (blk_lt (g := gb426) (o := .cells #[.int .i64 t423, .int .i64 t424] 30 (0, 0)) (bk_ BK426)) : gb426 ≠ gb434)); have n8_ := Aside0.mk ((by rw [hg]; exact Nat.ne_of_gt (blk_lt (g := gb426) (o := .cells #[.int .i64 t423, .int .i64 t424] 30 (0, 0)) (bk_ BK426)) : gb434 ≠ gb426)); have n9_ := Aside0.mk ((by rw [hg]; exact Nat.ne_of_lt (blk_lt (g := gb430) (o := .cells #[.int .i64 t427, .int .i64 t428] 30 (0, 0)) (bk_ BK430)) : gb430 ≠ gb434)); have n10_ := Aside0.mk ((by rw [hg]; exact Nat.ne_of_gt (blk_lt (g := gb430) (o := .cells #[.int .i64 t427, .int .i64 t428] 30 (0, 0)) (bk_ BK430)) : gb434 ≠ gb430)); clear HO_3; clear BK426; clear BK430; clear HB; have HO_3 := n0_; have BK426 := n1_; have BK430 := n2_; have HB := n3_; have BK434 := n4_; have GW434 := n5_; have GE434 := n6_; have NB426_434 := n7_; have NB434_426 := n8_; have NB430_434 := n9_; have NB434_430 := n10_; clear n0_ n1_ n2_ n3_ n4_ n5_ n6_ n7_ n8_ n9_ n10_; clear hb hbox hg; have hnb54 := NB434_426.out; have hnc54 := NB426_434.out; have hnb55 := NB434_430.out; have hnc55 := NB430_434.out; have hcz56_0 : w53.cell? ⟨gb434, 0, none⟩ = some (.int .i64 0) := (blk_cell BK434.out 0).trans rfl; have hcz56_1 : w53.cell? ⟨gb434, 1, none⟩ = some (.int .i64 0) := (blk_cell BK434.out 1).trans rfl; have hfz56_0 := blk_frozen BK434.out 0; have hfz56_1 := blk_frozen BK434.out 1))
                  repeat (go_quiet (first | (go_at_call 17; (with_reducible refine (impl_ValueAt.calls k2 _ _ t419 (wrap64 (12 * x9_2)) t431 t432 false _ ?side1 ?side2 ?side3 A36.out).mono ?_); (case side1 => repeat (first | exact (Kd.R_reads' HO_3.out).2.2 | (with_reducible refine Kd.C_alloc ?_ _) | (with_reducible refine Kd.C_drewN ?_ _) | (with_reducible refine Kd.C_drew ?_))); (case side2 => exact (Kd.R_reads' HO_3.out).2.1); (case side3 => first | exact HTab.out | exact Tab.below HTab.out (bl_ HB)); rintro e w52 ⟨rfl, hb⟩; have n0_ := Aside0.mk (Kd.R_below (kr_ HO_3) hb); have n1_ := Aside0.mk (blk_below (g := gb426) (o := .cells #[.int .i64 t423, .int .i64 t424] 30 (0, 0)) (bk_ BK426) hb); have n2_ := Aside0.mk (blk_below (g := gb430) (o := .cells #[.int .i64 t427, .int .i64 t428] 30 (0, 0)) (bk_ BK430) hb); have n3_ := Aside0.mk (below_step (bl_ HB) hb); clear HO_3; clear BK426; clear BK430; clear HB; have HO_3 := n0_; have BK426 := n1_; have BK430 := n2_; have HB := n3_; clear n0_ n1_ n2_ n3_; (try clear hb); (try clear hb2); (try clear hk); (try clear hi)) | ((with_reducible refine gate_dst (N := 10) rfl ?_); refine box_event ?hg (N := 10) ?hd (cs := #[.int .i64 0, .int .i64 0]) (t := 30) ?hr ?_; (case hd => rfl); (case hg => rfl); (case hr => first | (go_simp; done) | (go_simp; rfl)); intro gb434 hg w53 hbox hb; have n0_ := Aside0.mk (Kd.R_below (Kd.R_elderB (kr_ HO_3) gb434 (Nat.le_of_eq hg.symm)) hb); have n1_ := Aside0.mk (blk_below (g := gb426) (o := .cells #[.int .i64 t423, .int .i64 t424] 30 (0, 0)) (bk_ BK426) hb); have n2_ := Aside0.mk (blk_below (g := gb430) (o := .cells #[.int .i64 t427, .int .i64 t428] 30 (0, 0)) (bk_ BK430) hb); have n3_ := Aside0.mk (below_step (bl_ HB) hb); have n4_ := Aside0.mk (hbox); have n5_ := Aside0.mk ((by rw [hg]; exact (below_size (bl_ HB)) : w.heap.size ≤ gb434)); have n6_ := Aside0.mk ((by rw [hg]; exact (below_size (bl_ HB)) : w.heap.size ≤ gb434)); have n7_ := Aside0.mk ((by rw [hg]; exact Nat.ne_of_lt (blk_lt (g := gb426) (o := .cells #[.int .i64 t423, .int .i64 t424] 30 (0, 0)) (bk_ BK426)) : gb426 ≠ gb434)); have n8_ := Aside0.mk ((by rw [hg]; exact Nat.ne_of_gt (blk_lt (g := gb426) (o := .cells #[.int .i64 t423, .int .i64 t424] 30 (0, 0)) (bk_ BK426)) : gb434 ≠ gb426)); have n9_ := Aside0.mk ((by rw [hg]; exact Nat.ne_of_lt (blk_lt (g := gb430) (o := .cells #[.int .i64 t427, .int .i64 t428] 30 (0, 0)) (bk_ BK430)) : gb430 ≠ gb434)); have n10_ := Aside0.mk ((by rw [hg]; exact Nat.ne_of_gt (blk_lt (g := gb430) (o := .cells #[.int .i64 t427, .int .i64 t428] 30 (0, 0)) (bk_ BK430)) : gb434 ≠ gb430)); clear HO_3; clear BK426; clear BK430; clear HB; have HO_3 := n0_; have BK426 := n1_; have BK430 := n2_; have HB := n3_; have BK434 := n4_; have GW434 := n5_; have GE434 := n6_; have NB426_434 := n7_; have NB434_426 := n8_; have NB430_434 := n9_; have NB434_430 := n10_; clear n0_ n1_ n2_ n3_ n4_ n5_ n6_ n7_ n8_ n9_ n10_; clear hb hbox hg; have hnb54 := NB434_426.out; have hnc54 := NB426_434.out; have hnb55 := NB434_430.out; have hnc55 := NB430_434.out; have hcz56_0 : w53.cell? ⟨gb434, 0, none⟩ = some (.int .i64 0) := (blk_cell BK434.out 0).trans rfl; have hcz56_1 : w53.cell? ⟨gb434, 1, none⟩ = some (.int .i64 0) := (blk_cell BK434.out 1).trans rfl; have hfz56_0 := blk_frozen BK434.out 0; have hfz56_1 := blk_frozen BK434.out 1)); try go_wp2_with (first | (go_at_call 17; (with_reducible refine (impl_ValueAt.calls k2 _ _ t419 (wrap64 (12 * x9_2)) t431 t432 false _ ?side1 ?side2 ?side3 A36.out).mono ?_); (case side1 => repeat (first | exact (Kd.R_reads' HO_3.out).2.2 | (with_reducible refine Kd.C_alloc ?_ _) | (with_reducible refine Kd.C_drewN ?_ _) | (with_reducible refine Kd.C_drew ?_))); (case side2 => exact (Kd.R_reads' HO_3.out).2.1); (case side3 => first | exact HTab.out | exact Tab.below HTab.out (bl_ HB)); rintro e w52 ⟨rfl, hb⟩; have n0_ := Aside0.mk (Kd.R_below (kr_ HO_3) hb); have n1_ := Aside0.mk (blk_below (g := gb426) (o := .cells #[.int .i64 t423, .int .i64 t424] 30 (0, 0)) (bk_ BK426) hb); have n2_ := Aside0.mk (blk_below (g := gb430) (o := .cells #[.int .i64 t427, .int .i64 t428] 30 (0, 0)) (bk_ BK430) hb); have n3_ := Aside0.mk (below_step (bl_ HB) hb); clear HO_3; clear BK426; clear BK430; clear HB; have HO_3 := n0_; have BK426 := n1_; have BK430 := n2_; have HB := n3_; clear n0_ n1_ n2_ n3_; (try clear hb); (try clear hb2); (try clear hk); (try clear hi)) | ((with_reducible refine gate_dst (N := 10) rfl ?_); refine box_event ?hg (N := 10) ?hd (cs := #[.int .i64 0, .int .i64 0]) (t := 30) ?hr ?_; (case hd => rfl); (case hg => rfl); (case hr => first | (go_simp; done) | (go_simp; rfl)); intro gb434 hg w53 hbox hb; have n0_ := Aside0.mk (Kd.R_below (Kd.R_elderB (kr_ HO_3) gb434 (Nat.le_of_eq hg.symm)) hb); have n1_ := Aside0.mk (blk_below (g := gb426) (o := .cells #[.int .i64 t423, .int .i64 t424] 30 (0, 0)) (bk_ BK426) hb); have n2_ := Aside0.mk (blk_below (g := gb430) (o := .cells #[.int .i64 t427, .int .i64 t428] 30 (0, 0)) (bk_ BK430) hb); have n3_ := Aside0.mk (below_step (bl_ HB) hb); have n4_ := Aside0.mk (hbox); have n5_ := Aside0.mk ((by rw [hg]; exact (below_size (bl_ HB)) : w.heap.size ≤ gb434)); have n6_ := Aside0.mk ((by rw [hg]; exact (below_size (bl_ HB)) : w.heap.size ≤ gb434)); have n7_ := Aside0.mk ((by rw [hg]; exact Nat.ne_of_lt (blk_lt (g := gb426) (o := .cells #[.int .i64 t423, .int .i64 t424] 30 (0, 0)) (bk_ BK426)) : gb426 ≠ gb434)); have n8_ := Aside0.mk ((by rw [hg]; exact Nat.ne_of_gt (blk_lt (g := gb426) (o := .cells #[.int .i64 t423, .int .i64 t424] 30 (0, 0)) (bk_ BK426)) : gb434 ≠ gb426)); have n9_ := Aside0.mk ((by rw [hg]; exact Nat.ne_of_lt (blk_lt (g := gb430) (o := .cells #[.int .i64 t427, .int .i64 t428] 30 (0, 0)) (bk_ BK430)) : gb430 ≠ gb434)); have n10_ := Aside0.mk ((by rw [hg]; exact Nat.ne_of_gt (blk_lt (g := gb430) (o := .cells #[.int .i64 t427, .int .i64 t428] 30 (0, 0)) (bk_ BK430)) : gb434 ≠ gb430)); clear HO_3; clear BK426; clear BK430; clear HB; have HO_3 := n0_; have BK426 := n1_; have BK430 := n2_; have HB := n3_; have BK434 := n4_; have GW434 := n5_; have GE434 := n6_; have NB426_434 := n7_; have NB434_426 := n8_; have NB430_434 := n9_; have NB434_430 := n10_; clear n0_ n1_ n2_ n3_ n4_ n5_ n6_ n7_ n8_ n9_ n10_; clear hb hbox hg; have hnb54 := NB434_426.out; have hnc54 := NB426_434.out; have hnb55 := NB434_430.out; have hnc55 := NB430_434.out; have hcz56_0 : w53.cell? ⟨gb434, 0, none⟩ = some (.int .i64 0) := (blk_cell BK434.out 0).trans rfl; have hcz56_1 : w53.cell? ⟨gb434, 1, none⟩ = some (.int .i64 0) := (blk_cell BK434.out 1).trans rfl; have hfz56_0 := blk_frozen BK434.out 0; have hfz56_1 := blk_frozen BK434.out 1)))
                  go_ret
                  exact ⟨by first | rfl | (simp [errW_none, errW_some] <;> rfl) | (simp [*, errW_none, errW_some] <;> rfl), by repeat (first | (with_reducible first | exact HB.out | apply below_alloc | apply pw_below_drewN | apply below_drew1 | refine below_set ?_ GE426.out | refine below_set ?_ GE430.out | refine below_set ?_ GE434.out) | exact HB.out)⟩
              · rw [if_neg c35] at H
                have c35b0 : decide (x9_2 ≤ (t419.length : Int)) = false := decide_eq_false c35
                clear c35
                obtain rfl := Option.some.inj H
                go_wp2
                repeat (go_quiet (fail); try go_wp2)
                go_ret
                exact ⟨by first | rfl | (simp [errW_none, errW_some] <;> rfl) | (simp [*, errW_none, errW_some] <;> rfl), by repeat (first | (with_reducible first | exact HB.out | apply below_alloc | apply pw_below_drewN | apply below_drew1 | refine below_set ?_ GE426.out | refine below_set ?_ GE430.out) | exact HB.out)⟩

/-- THE ONE PURE STATEMENT of laws_FnValueAtYears: yours. -/
def laws_FnValueAtYears.Pure : Prop := ∀ (l0 : List Int), l0.length ≤ maxLen → l0.length * 1 ≤ 140737488351232 → (∀ x ∈ l0, (Lit.int .u8 x).wf = true) → ∃ k, laws_FnValueAtYears.f k l0 = some true
theorem laws_FnValueAtYears.walk (P : laws_FnValueAtYears.Pure) (a0 : Option Addr) (len0 cap0 : Nat) (z0 : List Int) (w : World) (w0 : (a0 = none ∧ len0 = 0 ∧ cap0 = 0 ∧ z0 = []) ∨ ∃ x, a0 = some x ∧ len0 ≤ cap0 ∧ cap0 ≤ maxLen ∧ z0.length = cap0 ∧ (∀ i, i < z0.length → w.cell? (x.add i) = some (.int .u8 (z0.getD i 0))) ∧ ∀ n ∈ z0, (Lit.int .u8 n).wf = true) (y0 : len0 * 1 ≤ 140737488351232) (hT : Tab w) :
    Calls Tryd.prog 7 #[.slice a0 len0 cap0] w fun e w' => e = .returned (.bool true) ∧ Below w.heap.size w w' := by
  obtain ⟨l0, rfl, hr0, hm0, hw0, hc0⟩ := ReadsInt.ofRowC w0
  obtain ⟨k, h⟩ := P l0 hm0 y0 hw0
  refine (laws_FnValueAtYears.calls k _ _ l0 true w (Kd.C_of_reads (d := (0 : Int)) (h1 := fun _ => rfl) hr0) hc0 hT h).mono ?_
  rintro e w' ⟨rfl, hd⟩
  exact ⟨rfl, hd⟩

end Go.Proofs.YtpijjacnbpnlfaaDoor.Q

/- Printed by a program (bprint.py) out of the translation: for each Go function a Lean function, and the proof that the call comes to its answers. Conditions: they stand in each theorem. -/
import Derived.Test.YtbofmoelmhbpoaaDoorQx0
import Derived.Test.YtbofmoelmhbpoaaDoorQx2
import Derived.Test.YtbofmoelmhbpoaaDoorQx3
import Derived.Test.YtbofmoelmhbpoaaDoorExtThrough
import Derived.Test.YtbofmoelmhbpoaaDoorMk
import Derived.Test.YtbofmoelmhbpoaaDoorTab
namespace Go.Proofs.YtbofmoelmhbpoaaDoor.Q
open Go.RowKit Go.Proofs.YtbofmoelmhbpoaaDoorW.PrintWords Go.Proofs.YtbofmoelmhbpoaaDoorW.PrintLast Go.Proofs.YtbofmoelmhbpoaaDoorW.PrintMore
attribute [local go_sem] max2_int min2_int max_two min_two max_three min_three max_four min_four   -- for this text's walks alone
set_option linter.unusedVariables false
set_option linter.unusedSimpArgs false
set_option linter.unusedSectionVars false
variable [Sent]

/-! ### impl_CurveOf: function 7 -/
mutual
def impl_CurveOf.l0 : Nat → List Int → List Int → Int → Int → Option ((List (S30)) × Bool)
 | 0, _, _, _, _ => none
 | k + 1, x0, x18, x19, x20 => if x20 < x19 then (if 0 ≤ x20 then (if x20 < (x18.length : Int) then ((impl_rateValid.f (rd x18 x20)).bind fun t192 => (if t192 = true then (impl_CurveOf.l0 k x0 x18 x19 (wrap64 (x20 + 1))) else (some (([] : List (S30)), false)))) else (none)) else (none)) else (if 0 ≤ (x0.length : Int) then (if ((x0.length : Int) : Int).toNat ≤ 17592186044416 then (impl_CurveOf.l1 k (List.replicate 0 z30) x0 (x0.length : Int) 0 0 0) else (none)) else (none))
def impl_CurveOf.l1 : Nat → List (S30) → List Int → Int → Int → Int → Int → Option ((List (S30)) × Bool)
 | 0, _, _, _, _, _, _ => none
 | k + 1, x6, x31, x32, x33, x197000, x197001 => if x33 < x32 then (if 0 ≤ x33 then (if x33 < (x31.length : Int) then ((impl_ceil.f (wrap64 ((wrap64 (100 * (rd x31 x33))) * x197001)) 1000000).bind fun t198 => ((impl_floor.f (wrap64 ((wrap64 (100 * (rd x31 x33))) * x197000)) 1000000).bind fun t199 => ((impl_exactly.f (wrap64 (1000000 + (wrap64 (100 * (rd x31 x33)))))).bind fun bt201 => ((impl_Range_through.f (wrap64 (1000000 - t198)) (wrap64 (1000000 - t199)) bt201.1 bt201.2).bind fun bt203 => (if (wrap64 (1000000 - t198)) ≤ 0 then (some (([] : List (S30)), false)) else (if bt203.2.2.isNone = true then (if bt203.1 ≤ 0 then (some (([] : List (S30)), false)) else (if x6.length < 8796093022208 then (impl_CurveOf.l1 k (x6 ++ [(⟨bt203.1, bt203.2.1⟩ : S30)]) x31 x32 (wrap64 (x33 + 1)) (wrap64 (x197000 + bt203.1)) (wrap64 (x197001 + bt203.2.1))) else (none))) else (some (([] : List (S30)), false)))))))) else (none)) else (none)) else (some (x6, true))
end
def impl_CurveOf.f (k : Nat) (l0 : List Int) : Option ((List (S30)) × Bool) := (impl_within.f (l0.length : Int) 1 12).bind fun t190 => (if t190 = true then (impl_CurveOf.l0 k l0 l0 (l0.length : Int) 0) else (some (([] : List (S30)), false)))
theorem impl_CurveOf.mono_l : ∀ k, (∀ y0 y1 y2 y3, LeO (impl_CurveOf.l0 k y0 y1 y2 y3) (impl_CurveOf.l0 (k + 1) y0 y1 y2 y3)) ∧ (∀ y0 y1 y2 y3 y4 y5, LeO (impl_CurveOf.l1 k y0 y1 y2 y3 y4 y5) (impl_CurveOf.l1 (k + 1) y0 y1 y2 y3 y4 y5))
 | 0 => ⟨fun _ _ _ _ r h => by simp [impl_CurveOf.l0] at h, fun _ _ _ _ _ _ r h => by simp [impl_CurveOf.l1] at h⟩
 | k + 1 => by
  obtain ⟨ih0, ih1⟩ := impl_CurveOf.mono_l k
  refine ⟨?_, ?_⟩
  ·
   intro y0 y1 y2 y3
   unfold impl_CurveOf.l0
   repeat' first
   | (with_reducible exact ih0 _ _ _ _)
   | (with_reducible exact ih1 _ _ _ _ _ _)
   | (with_reducible exact LeO.refl _)
   | (with_reducible exact LeO.none _)
   | (with_reducible refine LeO.ite ?_ ?_)
   | (with_reducible refine LeO.bind ?_ (fun _ => ?_))
   | exact ih0 _ _ _ _
   | exact ih1 _ _ _ _ _ _
   | exact LeO.none _
   | refine LeO.ite ?_ ?_
   | refine LeO.bind ?_ (fun _ => ?_)
  ·
   intro y0 y1 y2 y3 y4 y5
   unfold impl_CurveOf.l1
   repeat' first
   | (with_reducible exact ih0 _ _ _ _)
   | (with_reducible exact ih1 _ _ _ _ _ _)
   | (with_reducible exact LeO.refl _)
   | (with_reducible exact LeO.none _)
   | (with_reducible refine LeO.ite ?_ ?_)
   | (with_reducible refine LeO.bind ?_ (fun _ => ?_))
   | exact ih0 _ _ _ _
   | exact ih1 _ _ _ _ _ _
   | exact LeO.none _
   | refine LeO.ite ?_ ?_
   | refine LeO.bind ?_ (fun _ => ?_)
theorem impl_CurveOf.mono : ∀ a0 k, LeO (impl_CurveOf.f k a0) (impl_CurveOf.f (k + 1) a0) := by
 intro a0 k
 obtain ⟨ih0, ih1⟩ := impl_CurveOf.mono_l k
 unfold impl_CurveOf.f
 repeat' first
   | (with_reducible exact ih0 _ _ _ _)
   | (with_reducible exact ih1 _ _ _ _ _ _)
   | (with_reducible exact LeO.refl _)
   | (with_reducible exact LeO.none _)
   | (with_reducible refine LeO.ite ?_ ?_)
   | (with_reducible refine LeO.bind ?_ (fun _ => ?_))
   | exact ih0 _ _ _ _
   | exact ih1 _ _ _ _ _ _
   | exact LeO.none _
   | refine LeO.ite ?_ ?_
   | refine LeO.bind ?_ (fun _ => ?_)
def impl_CurveOf.T15 : Bool × List (List Nat × List Nat) := (true, [([], []), ([], []), ([1], [1]), ([0, 2], [0, 2]), ([3], [3]), ([4], [4]), ([], []), ([], []), ([7], [7]), ([6, 8], [6, 8]), ([9, 4], [9]), ([10], [10]), ([5, 11], [5, 11]), ([], []), ([13, 12, 10, 0, 1, 2, 3, 4, 5, 6, 7, 8, 9, 10, 11, 12, 13], [12, 13])])
def impl_CurveOf.B15 : List Nat := [0, 0, 2, 7, 15, 31, 0, 0, 128, 448, 991, 2015, 4095, 0, 16383]
theorem impl_CurveOf.tab15 : rtab .any (opsOf Tryd.f7 15) = impl_CurveOf.T15 := by kernel_rfl
theorem impl_CurveOf.bits15 : waitsOk impl_CurveOf.T15.2 impl_CurveOf.B15 = true := by kernel_rfl
def impl_CurveOf.T16 : Bool × List (List Nat × List Nat) := (true, [([], []), ([], []), ([1], [1]), ([2], [2]), ([0, 3, 3], [0, 3]), ([4], [4]), ([5], [5]), ([5], [5]), ([], []), ([8, 6, 4, 0, 1, 2, 3, 4, 5, 6, 8], [6, 8]), ([7, 9, 0, 1, 2, 3, 4, 5, 6, 7, 8, 9], [7])])
def impl_CurveOf.B16 : List Nat := [0, 0, 2, 6, 15, 31, 63, 63, 0, 383, 1023]
theorem impl_CurveOf.tab16 : rtab .any (opsOf Tryd.f7 16) = impl_CurveOf.T16 := by kernel_rfl
theorem impl_CurveOf.bits16 : waitsOk impl_CurveOf.T16.2 impl_CurveOf.B16 = true := by kernel_rfl
set_option maxHeartbeats 8000000 in
set_option maxRecDepth 100000 in
theorem impl_CurveOf.calls (k : Nat) (A0 : Option Addr) (c0 : Nat) (l0 : List Int) (r1 : List (S30)) (r2 : Bool) (w : World) (hr0 : Kd.C (Kd.int .i64) w A0 l0.length l0) (hc0 : l0.length ≤ c0) (hT : Tab w) (h : impl_CurveOf.f k l0 = some (r1, r2)) :
  Calls Tryd.prog 7 #[.slice A0 l0.length c0] w fun e w' => ∃ v0_ : Value, e = .returned (.tuple #[v0_, .bool r2]) ∧ Kd.R k30 30 w' w.heap.size (fun _ => True) v0_ r1 ∧ Below w.heap.size w w' := by
 have hu30 := Tryd.underlying30
 have hu50 := Tryd.underlying50
 have HTab := Aside0.mk hT
 clear hT
 have HR0 := Aside0.mk hr0
 have HC0 := Aside0.mk hc0
 clear hr0 hc0
 have HB := Aside0.mk (Below.refl w.heap.size w)
 have H : ((impl_within.f (l0.length : Int) 1 12).bind fun t190 => (if t190 = true then (impl_CurveOf.l0 k l0 l0 (l0.length : Int) 0) else (some (([] : List (S30)), false)))) = some (r1, r2) := h
 clear h
 replace H := Option.bind_eq_some_iff.mp H
 obtain ⟨t190, A20, H⟩ := H
 replace H : (if t190 = true then (impl_CurveOf.l0 k l0 l0 (l0.length : Int) 0) else (some (([] : List (S30)), false))) = some (r1, r2) := H
 have A2 := Aside0.mk A20
 clear A20
 by_cases c3 : t190 = true
 ·
  subst c3
  have H1 : (impl_CurveOf.l0 k l0 l0 (l0.length : Int) 0) = some (r1, r2) := by rw [if_pos rfl] at H; exact H
  clear H
  have H := H1
  clear H1
  have H' := Aside0.mk H
  clear H
  go_enter Tryd.func7, Tryd.ntmps7
  go_wp2_with (first | ((with_reducible refine gate_callee (f := 22) rfl ?_); refine goesL_ (some 16) rfl rfl Tryd.func22 (by kernel_rfl) rfl #[.int .i64 (l0.length : Int), .int .i64 1, .int .i64 12] rfl (by (try simp only [List.map_toArray, List.map_cons, List.map_nil]); first | done | rfl | (simp only [List.length_drop, List.length_take]; rfl)) ?_; (with_reducible refine (impl_within.calls (l0.length : Int) 1 12 true _ A2.out).mono ?_); rintro e w' ⟨rfl, ⟨nd, rfl⟩⟩; refine ⟨_, rfl, ?_⟩))
  go_loopg [20] k (fun kq v20 w' => ∃ (x20_1 : Int), v20 = .int .i64 x20_1 ∧ Aside0 (impl_CurveOf.l0 kq l0 l0 (l0.length : Int) x20_1 = some (r1, r2)) ∧ Aside0 (kq ≤ k) ∧ Aside0 (Below w.heap.size w w'))
  case atStart => exact ⟨(0), (by first | rfl | (simp; done) | (simp [*]; done)), H', ⟨Nat.le_refl _⟩, ⟨by repeat (first | (with_reducible first | exact HB.out | apply below_alloc | apply pw_below_drewN | apply below_drew1) | exact HB.out)⟩⟩
  case round =>
   clear H'
   try clear c2
   try clear p2
   try clear c3
   obtain ⟨x20_1, rfl, HA, HK1, HB⟩ := hrel
   cases gk with
   | zero => exact absurd HA.out (by simp [impl_CurveOf.l0])
   | succ k1 =>
    have H := HA.out
    clear HA
    simp only [impl_CurveOf.l0] at H
    by_cases c4 : x20_1 < (l0.length : Int)
    ·
     rw [if_pos c4] at H
     have c4b0 : decide (x20_1 < (l0.length : Int)) = true := decide_eq_true c4
     clear c4
     by_cases c5 : 0 ≤ x20_1
     ·
      rw [if_pos c5] at H
      have c5b0 : decide (0 ≤ x20_1) = true := decide_eq_true c5
      clear c5
      by_cases c6 : x20_1 < (l0.length : Int)
      ·
       rw [if_pos c6] at H
       have c6b0 : decide (x20_1 < (l0.length : Int)) = true := decide_eq_true c6
       clear c6
       replace H := Option.bind_eq_some_iff.mp H
       obtain ⟨t192, A70, H⟩ := H
       replace H : (if t192 = true then (impl_CurveOf.l0 k1 l0 l0 (l0.length : Int) (wrap64 (x20_1 + 1))) else (some (([] : List (S30)), false))) = some (r1, r2) := H
       have A7 := Aside0.mk A70
       clear A70
       by_cases c8 : t192 = true
       ·
        subst c8
        have H1 : (impl_CurveOf.l0 k1 l0 l0 (l0.length : Int) (wrap64 (x20_1 + 1))) = some (r1, r2) := by rw [if_pos rfl] at H; exact H
        clear H
        have H := H1
        clear H1
        have H' := Aside0.mk H
        clear H
        have p191 : 0 ≤ (x20_1 : Int) := of_decide_eq_true (by first | (with_reducible assumption) | assumption)
        have q191 : x20_1 < (l0.length : Int) := of_decide_eq_true (by first | (with_reducible assumption) | assumption)
        obtain ⟨ad191, e191, hx191_0⟩ := Kd.at_int HR0.out x20_1 p191 q191
        cases e191
        replace hx191_0 := (HB.out.cell (World.block_lt_of_cell? w _ hx191_0)).trans hx191_0
        replace p191 := eq_true p191
        replace q191 := eq_true q191
        go_wp2_with (first | ((with_reducible refine gate_callee (f := 23) rfl ?_); refine goesL_ (some 25) rfl rfl Tryd.func23 (by kernel_rfl) rfl #[.int .i64 (rd l0 x20_1)] rfl (by (try simp only [List.map_toArray, List.map_cons, List.map_nil]); first | done | rfl | (simp only [List.length_drop, List.length_take]; rfl)) ?_; (with_reducible refine (impl_rateValid.calls (rd l0 x20_1) true _ A7.out).mono ?_); rintro e w' ⟨rfl, ⟨nd, rfl⟩⟩; refine ⟨_, rfl, ?_⟩))
        go_roundg k1
        case measure => have := HK1.out; omega
        case rel => exact ⟨(wrap64 (x20_1 + 1)), (by first | rfl | (simp; done) | (simp [*]; done)), H', ⟨by have := HK1.out; omega⟩, ⟨by repeat (first | (with_reducible first | exact HB.out | apply below_alloc | apply pw_below_drewN | apply below_drew1) | exact HB.out)⟩⟩
       ·
        replace c8 := Bool.eq_false_iff.mpr c8
        subst c8
        have H1 : (some (([] : List (S30)), false)) = some (r1, r2) := by rw [if_neg (show ¬ (false = true) by decide)] at H; exact H
        clear H
        have H := H1
        clear H1
        simp only [Option.some.injEq, Prod.mk.injEq] at H
        obtain ⟨rfl, rfl⟩ := H
        have p191 : 0 ≤ (x20_1 : Int) := of_decide_eq_true (by first | (with_reducible assumption) | assumption)
        have q191 : x20_1 < (l0.length : Int) := of_decide_eq_true (by first | (with_reducible assumption) | assumption)
        obtain ⟨ad191, e191, hx191_0⟩ := Kd.at_int HR0.out x20_1 p191 q191
        cases e191
        replace hx191_0 := (HB.out.cell (World.block_lt_of_cell? w _ hx191_0)).trans hx191_0
        replace p191 := eq_true p191
        replace q191 := eq_true q191
        go_wp2_with (first | ((with_reducible refine gate_callee (f := 23) rfl ?_); refine goesL_ (some 25) rfl rfl Tryd.func23 (by kernel_rfl) rfl #[.int .i64 (rd l0 x20_1)] rfl (by (try simp only [List.map_toArray, List.map_cons, List.map_nil]); first | done | rfl | (simp only [List.length_drop, List.length_take]; rfl)) ?_; (with_reducible refine (impl_rateValid.calls (rd l0 x20_1) false _ A7.out).mono ?_); rintro e w' ⟨rfl, ⟨nd, rfl⟩⟩; refine ⟨_, rfl, ?_⟩))
        go_ret2
        exact ⟨_, by first | rfl | (simp [errW_none, errW_some] <;> rfl) | (simp [*, errW_none, errW_some] <;> rfl), by first | exact Kd.R_nil _ _ _ _ _ | exact Kd.N_nil _ _ _ _ _ | exact Kd.V_nil _ _ _ _ _ | exact Kd.Q_nil _ _ _ _ _ | exact Kd.S_nil _ _ _ _ _, by repeat (first | (with_reducible first | exact HB.out | apply below_alloc | apply pw_below_drewN | apply below_drew1) | exact HB.out)⟩
      ·
       rw [if_neg c6] at H
       exact absurd H (by simp)
     ·
      rw [if_neg c5] at H
      exact absurd H (by simp)
    ·
     rw [if_neg c4] at H
     have c4b0 : decide (x20_1 < (l0.length : Int)) = false := decide_eq_false c4
     clear c4
     by_cases c9 : 0 ≤ (l0.length : Int)
     ·
      rw [if_pos c9] at H
      have c9b0 := eq_true c9
      have c9b1 : decide (0 ≤ (l0.length : Int)) = true := decide_eq_true c9
      clear c9
      by_cases c10 : ((l0.length : Int) : Int).toNat ≤ 17592186044416
      ·
       rw [if_pos c10] at H
       have c10b0 := eq_true c10
       have c10b1 : decide (((l0.length : Int) : Int).toNat ≤ 17592186044416) = true := decide_eq_true c10
       clear c10
       obtain ⟨y193, hy193⟩ : ∃ y_ : List (S30), y_ = (List.replicate 0 z30) := ⟨_, rfl⟩
       replace H : (impl_CurveOf.l1 k1 y193 l0 (l0.length : Int) 0 0 0) = some (r1, r2) := by first | (rw [hy193]; with_reducible exact H) | (have H2_ := (Option.bind_some _ _).symm.trans H; rw [hy193]; with_reducible exact H2_) | (have H2_ := (Option.bind_some _ _).symm.trans H; with_reducible exact H2_) | with_reducible exact H | (rw [hy193]; exact H) | exact H
       have Ny193 := Aside0.mk hy193
       clear hy193
       have H' := Aside0.mk H
       clear H
       go_wp2_with (first | ((with_reducible refine gate_dst (N := 30) rfl ?_); refine Kd.R_makeC k30 _ 30 rfl (N := 30) rfl 25 _ _ rfl 0 _ rfl rfl Tryd.underlying25 (.agg #[(.int .i64 0), (.int .i64 0)]) 16 info30 rfl (by decide) (by omega) z30 (ok := fun _ => True) (okp := fun _ => True) (k30_mkM _ _ _ z30 ) (fun _ hk => hk) trivial (by omega) (of_decide_eq_true (by first | (with_reducible assumption) | assumption)) (Nat.le_trans (Nat.mul_le_mul_right _ (of_decide_eq_true (by first | (with_reducible assumption) | assumption) : (Int.toNat _) ≤ 17592186044416)) (by omega)) (Below.refl _ _) (Nat.le_refl _) ?_; intro v194 w11 ho12 hb hg_ hnew_; clear hg_ hnew_; (first | rw [← Ny193.out] at ho12 | (simp only [Int.reduceToNat] at ho12; rw [← Ny193.out] at ho12)); have n0_ := Aside0.mk (Kd.R_lower ho12 (below_size (bl_ HB))); have n1_ := Aside0.mk (below_step (bl_ HB) hb); clear HB; have HO195 := n0_; have HB := n1_; clear n0_ n1_; clear hb ho12) | ((with_reducible refine gate_dst (N := 7) rfl ?_); refine box_event ?hg (N := 7) ?hd (cs := #[.int .i64 0, .int .i64 0]) (t := 30) ?hr ?_; (case hd => rfl); (case hg => rfl); (case hr => first | (go_simp; done) | (go_simp; rfl)); intro gb196 hg w13 hbox hb; have n0_ := Aside0.mk (Kd.R_below (Kd.R_elderB (kr_ HO195) gb196 (Nat.le_of_eq hg.symm)) hb); have n1_ := Aside0.mk (below_step (bl_ HB) hb); have n2_ := Aside0.mk (hbox); have n3_ := Aside0.mk ((by rw [hg]; exact (below_size (bl_ HB)) : w.heap.size ≤ gb196)); have n4_ := Aside0.mk ((by rw [hg]; exact (below_size (bl_ HB)) : w.heap.size ≤ gb196)); clear HO195; clear HB; have HO195 := n0_; have HB := n1_; have BK196 := n2_; have GW196 := n3_; have GE196 := n4_; clear n0_ n1_ n2_ n3_ n4_; clear hb hbox hg))
       go_loopg [6, 33] k1 (fun kq v6 v33 w' => ∃ (x6_2 : List (S30)) (x33_2 : Int) (x197000_2 : Int) (x197001_2 : Int), v33 = .int .i64 x33_2 ∧ Aside0 (impl_CurveOf.l1 kq x6_2 l0 (l0.length : Int) x33_2 x197000_2 x197001_2 = some (r1, r2)) ∧ Aside0 (kq ≤ k1) ∧ Aside0 (Kd.R k30 30 w' w.heap.size (fun k_ => k_ ≠ gb196) v6 x6_2) ∧ Aside0 (w'.heap[gb196]? = some (.cells #[.int .i64 x197000_2, .int .i64 x197001_2] 30 (0, 0))) ∧ Aside0 (Below w.heap.size w w'))
       case atStart => exact ⟨(y193), (0), (0), (0), (by first | rfl | (simp; done) | (simp [*]; done)), H', ⟨Nat.le_refl _⟩, ⟨by (with_reducible repeat (first | apply Kd.R_alloc | apply Kd.R_drewN | apply Kd.R_drew)); exact Kd.R_mono HO195.out (fun _ hk => hk.2)⟩, ⟨by (with_reducible repeat (first | refine blk_drewN ?_ _ | refine blk_drew ?_ | refine blk_alloc ?_ _)); exact BK196.out⟩, ⟨by repeat (first | (with_reducible first | exact HB.out | apply below_alloc | apply pw_below_drewN | apply below_drew1 | refine below_set ?_ GE196.out) | exact HB.out)⟩⟩
       case round =>
        clear H'
        try clear c1
        try clear p1
        try clear q1
        try clear hx1
        try clear c2
        try clear p2
        try clear c3
        try clear c4
        try clear c4b0
        try clear c5
        try clear c5b0
        try clear c6
        try clear c6b0
        try clear p6
        try clear c7
        try clear c8
        try clear c9
        try clear c9b0
        try clear c9b1
        try clear c10
        try clear c10b0
        try clear c10b1
        try clear hx191_0
        try clear p191
        try clear p2
        try clear q191
        obtain ⟨x6_2, x33_2, x197000_2, x197001_2, rfl, HA, HK2, HO_6, BK196, HB⟩ := hrel
        cases gk with
        | zero => exact absurd HA.out (by simp [impl_CurveOf.l1])
        | succ k2 =>
         have H := HA.out
         clear HA
         simp only [impl_CurveOf.l1] at H
         by_cases c14 : x33_2 < (l0.length : Int)
         ·
          rw [if_pos c14] at H
          have c14b0 : decide (x33_2 < (l0.length : Int)) = true := decide_eq_true c14
          clear c14
          by_cases c15 : 0 ≤ x33_2
          ·
           rw [if_pos c15] at H
           have c15b0 : decide (0 ≤ x33_2) = true := decide_eq_true c15
           clear c15
           by_cases c16 : x33_2 < (l0.length : Int)
           ·
            rw [if_pos c16] at H
            have c16b0 : decide (x33_2 < (l0.length : Int)) = true := decide_eq_true c16
            clear c16
            replace H := Option.bind_eq_some_iff.mp H
            obtain ⟨t198, A170, H⟩ := H
            replace H : ((impl_floor.f (wrap64 ((wrap64 (100 * (rd l0 x33_2))) * x197000_2)) 1000000).bind fun t199 => ((impl_exactly.f (wrap64 (1000000 + (wrap64 (100 * (rd l0 x33_2)))))).bind fun bt201 => ((impl_Range_through.f (wrap64 (1000000 - t198)) (wrap64 (1000000 - t199)) bt201.1 bt201.2).bind fun bt203 => (if (wrap64 (1000000 - t198)) ≤ 0 then (some (([] : List (S30)), false)) else (if bt203.2.2.isNone = true then (if bt203.1 ≤ 0 then (some (([] : List (S30)), false)) else (if x6_2.length < 8796093022208 then (impl_CurveOf.l1 k2 (x6_2 ++ [(⟨bt203.1, bt203.2.1⟩ : S30)]) l0 (l0.length : Int) (wrap64 (x33_2 + 1)) (wrap64 (x197000_2 + bt203.1)) (wrap64 (x197001_2 + bt203.2.1))) else (none))) else (some (([] : List (S30)), false))))))) = some (r1, r2) := H
            have A17 := Aside0.mk A170
            clear A170
            replace H := Option.bind_eq_some_iff.mp H
            obtain ⟨t199, A180, H⟩ := H
            replace H : ((impl_exactly.f (wrap64 (1000000 + (wrap64 (100 * (rd l0 x33_2)))))).bind fun bt201 => ((impl_Range_through.f (wrap64 (1000000 - t198)) (wrap64 (1000000 - t199)) bt201.1 bt201.2).bind fun bt203 => (if (wrap64 (1000000 - t198)) ≤ 0 then (some (([] : List (S30)), false)) else (if bt203.2.2.isNone = true then (if bt203.1 ≤ 0 then (some (([] : List (S30)), false)) else (if x6_2.length < 8796093022208 then (impl_CurveOf.l1 k2 (x6_2 ++ [(⟨bt203.1, bt203.2.1⟩ : S30)]) l0 (l0.length : Int) (wrap64 (x33_2 + 1)) (wrap64 (x197000_2 + bt203.1)) (wrap64 (x197001_2 + bt203.2.1))) else (none))) else (some (([] : List (S30)), false)))))) = some (r1, r2) := H
            have A18 := Aside0.mk A180
            clear A180
            replace H := Option.bind_eq_some_iff.mp H
            obtain ⟨⟨t201, t202⟩, A190, H⟩ := H
            replace H : ((impl_Range_through.f (wrap64 (1000000 - t198)) (wrap64 (1000000 - t199)) t201 t202).bind fun bt203 => (if (wrap64 (1000000 - t198)) ≤ 0 then (some (([] : List (S30)), false)) else (if bt203.2.2.isNone = true then (if bt203.1 ≤ 0 then (some (([] : List (S30)), false)) else (if x6_2.length < 8796093022208 then (impl_CurveOf.l1 k2 (x6_2 ++ [(⟨bt203.1, bt203.2.1⟩ : S30)]) l0 (l0.length : Int) (wrap64 (x33_2 + 1)) (wrap64 (x197000_2 + bt203.1)) (wrap64 (x197001_2 + bt203.2.1))) else (none))) else (some (([] : List (S30)), false))))) = some (r1, r2) := H
            have A19 := Aside0.mk A190
            clear A190
            replace H := Option.bind_eq_some_iff.mp H
            obtain ⟨⟨t203, t204, t205⟩, A200, H⟩ := H
            replace H : (if (wrap64 (1000000 - t198)) ≤ 0 then (some (([] : List (S30)), false)) else (if t205.isNone = true then (if t203 ≤ 0 then (some (([] : List (S30)), false)) else (if x6_2.length < 8796093022208 then (impl_CurveOf.l1 k2 (x6_2 ++ [(⟨t203, t204⟩ : S30)]) l0 (l0.length : Int) (wrap64 (x33_2 + 1)) (wrap64 (x197000_2 + t203)) (wrap64 (x197001_2 + t204))) else (none))) else (some (([] : List (S30)), false)))) = some (r1, r2) := H
            have A20 := Aside0.mk A200
            clear A200
            by_cases c21 : (wrap64 (1000000 - t198)) ≤ 0
            ·
             rw [if_pos c21] at H
             have c21b0 : decide ((wrap64 (1000000 - t198)) ≤ 0) = true := decide_eq_true c21
             clear c21
             simp only [Option.some.injEq, Prod.mk.injEq] at H
             obtain ⟨rfl, rfl⟩ := H
             have p197 : 0 ≤ (x33_2 : Int) := of_decide_eq_true (by first | (with_reducible assumption) | assumption)
             have q197 : x33_2 < (l0.length : Int) := of_decide_eq_true (by first | (with_reducible assumption) | assumption)
             obtain ⟨ad197, e197, hx197_0⟩ := Kd.at_int HR0.out x33_2 p197 q197
             cases e197
             replace hx197_0 := (HB.out.cell (World.block_lt_of_cell? w _ hx197_0)).trans hx197_0
             replace p197 := eq_true p197
             replace q197 := eq_true q197
             try go_wp2
             have n0_ := Aside0.mk (Kd.R_drew HO_6.out)
             have n1_ := Aside0.mk (blk_drew BK196.out)
             have n2_ := Aside0.mk (below_drew1 HB.out)
             clear HO_6
             clear BK196
             clear HB
             have HO_6 := n0_
             have BK196 := n1_
             have HB := n2_
             clear n0_ n1_ n2_
             refine start_ (n := 15) (S := fun w' => w'.cell? ⟨gb196, 0, none⟩ = some (.int .i64 x197000_2) ∧ w'.cell? ⟨gb196, 1, none⟩ = some (.int .i64 x197001_2)) (ds := []) #[false, false, false, false, false, false, false, false, false, false, false, false, false, false, false] (by kernel_rfl) rfl rfl ⟨(blk_cell BK196.out 0).trans rfl, (blk_cell BK196.out 1).trans rfl⟩ (fun hHeld => ?_); refine with_tabW impl_CurveOf.tab15 impl_CurveOf.bits15 (fun HT_ HW_ => ?_)
             generalize wr.drew = w22 at HO_6 BK196 HB hHeld ⊢
             refine pure_ (i := 0) (N := some 39) (v := ?_) (a' := ?_) #[true, false, false, false, false, false, false, false, false, false, false, false, false, false, false] rfl rfl (any_of HT_.out (by kernel_rfl)) (fun _ _ _ h => h) (Or.inl ⟨by rfl, ?_⟩) ?_ ?_
             rotate_left
             ·
              intro w'
              go_simp
              with_reducible rfl
             rotate_left
             ·
              simp only [Act.put, sa_, sb_, sc_, i64_w, i32_w]
              rfl
             refine pure_ (i := 1) (N := some 40) (v := ?_) (a' := ?_) #[true, true, false, false, false, false, false, false, false, false, false, false, false, false, false] rfl rfl (any_of HT_.out (by kernel_rfl)) (fun _ _ _ h => h) (Or.inl ⟨by rfl, ?_⟩) ?_ ?_
             rotate_left
             ·
              intro w'
              go_simp
              with_reducible rfl
             rotate_left
             ·
              simp only [Act.put, sa_, sb_, sc_, i64_w, i32_w]
              rfl
             refine pure_ (i := 6) (N := some 45) (v := ?_) (a' := ?_) #[true, true, false, false, false, false, true, false, false, false, false, false, false, false, false] rfl rfl (any_of HT_.out (by kernel_rfl)) (fun _ _ _ h => h) (Or.inl ⟨by rfl, ?_⟩) ?_ ?_
             rotate_left
             ·
              intro w'
              go_simp
              with_reducible rfl
             rotate_left
             ·
              simp only [Act.put, sa_, sb_, sc_, i64_w, i32_w]
              rfl
             refine pure_ (i := 7) (N := some 46) (v := ?_) (a' := ?_) #[true, true, false, false, false, false, true, true, false, false, false, false, false, false, false] rfl rfl (any_of HT_.out (by kernel_rfl)) (fun _ _ _ h => h) (Or.inl ⟨by rfl, ?_⟩) ?_ ?_
             rotate_left
             ·
              intro w'
              go_simp
              with_reducible rfl
             rotate_left
             ·
              simp only [Act.put, sa_, sb_, sc_, i64_w, i32_w]
              rfl
             refine take_ (i := 2) (N := some 41) (v := ?_) (a' := ?_) #[true, true, true, false, false, false, true, true, false, false, false, false, false, false, false] rfl rfl (take_ofW HT_.out HW_.out (by kernel_rfl)) (fun _ _ _ h => h) (Or.inl ⟨by rfl, ?_⟩) hHeld ?_ ?_
             rotate_left
             ·
              rintro w' ⟨s0, s1⟩
              go_simp
              with_reducible rfl
             rotate_left
             ·
              simp only [Act.put, sa_, sb_, sc_, i64_w, i32_w]
              rfl
             refine pure_ (i := 3) (N := some 42) (v := ?_) (a' := ?_) #[true, true, true, true, false, false, true, true, false, false, false, false, false, false, false] rfl rfl (any_of HT_.out (by kernel_rfl)) (fun _ _ _ h => h) (Or.inl ⟨by rfl, ?_⟩) ?_ ?_
             rotate_left
             ·
              intro w'
              go_simp
              with_reducible rfl
             rotate_left
             ·
              simp only [Act.put, sa_, sb_, sc_, i64_w, i32_w]
              rfl
             refine take_ (i := 8) (N := some 47) (v := ?_) (a' := ?_) #[true, true, true, true, false, false, true, true, true, false, false, false, false, false, false] rfl rfl (take_ofW HT_.out HW_.out (by kernel_rfl)) (fun _ _ _ h => h) (Or.inl ⟨by rfl, ?_⟩) hHeld ?_ ?_
             rotate_left
             ·
              rintro w' ⟨s0, s1⟩
              go_simp
              with_reducible rfl
             rotate_left
             ·
              simp only [Act.put, sa_, sb_, sc_, i64_w, i32_w]
              rfl
             refine pure_ (i := 9) (N := some 48) (v := ?_) (a' := ?_) #[true, true, true, true, false, false, true, true, true, true, false, false, false, false, false] rfl rfl (any_of HT_.out (by kernel_rfl)) (fun _ _ _ h => h) (Or.inl ⟨by rfl, ?_⟩) ?_ ?_
             rotate_left
             ·
              intro w'
              go_simp
              with_reducible rfl
             rotate_left
             ·
              simp only [Act.put, sa_, sb_, sc_, i64_w, i32_w]
              rfl
             refine join_ (σ := Nat) 1 #[true, true, true, true, true, true, true, true, true, true, true, true, true, true, false] (fun s_ => [(43, .int .i64 t198), (49, .int .i64 t199), (11, .pointer (some ⟨s_, 0, none⟩)), (44, .int .i64 (wrap64 (1000000 - t198))), (50, .int .i64 (wrap64 (1000000 - t199))), (51, .agg #[.int .i64 (wrap64 (1000000 - t198)), .int .i64 (wrap64 (1000000 - t199))])]) (fun s_ w' => (w'.cell? ⟨gb196, 0, none⟩ = some (.int .i64 x197000_2) ∧ w'.cell? ⟨gb196, 1, none⟩ = some (.int .i64 x197001_2)) ∧ (Kd.R k30 30 w' w.heap.size (fun k_ => k_ ≠ gb196 ∧ k_ ≠ s_) u6 x6_2) ∧ (w'.heap[gb196]? = some (.cells #[.int .i64 x197000_2, .int .i64 x197001_2] 30 (0, 0))) ∧ (w'.heap[s_]? = some (.cells #[.int .i64 0, .int .i64 0] 30 (0, 0))) ∧ (w.heap.size ≤ s_) ∧ (w.heap.size ≤ s_) ∧ (gb196 ≠ s_) ∧ (s_ ≠ gb196) ∧ (Below w.heap.size w w')) ?_ ?_
             rotate_left
             ·
              intro hCont
              refine two_ (i := 4) (j := 13) (Ni := some 43) (Nj := some 11) #[true, true, true, true, true, false, true, true, true, true, false, false, false, false, false] #[true, true, true, true, false, false, true, true, true, true, false, false, false, true, false] rfl rfl rfl rfl (two_of HT_.out (by kernel_rfl)) (by decide) (by decide) (fun K hK => ?_) (fun K hK => ?_)
              ·
               skip
               refine goes_ Tryd.func24 (by kernel_rfl) rfl #[.int .i64 (wrap64 ((wrap64 (100 * (rd l0 x33_2))) * x197001_2)), .int .i64 1000000] (by rfl) rfl rfl (by (try simp only [List.map_toArray, List.map_cons, List.map_nil]); first | done | rfl | (simp only [List.length_drop, List.length_take]; rfl)) ?_
               with_reducible refine (impl_ceil.calls (wrap64 ((wrap64 (100 * (rd l0 x33_2))) * x197001_2)) 1000000 t198 _ A17.out).mono ?_
               rintro e w' ⟨rfl, ⟨nd, rfl⟩⟩
               refine ⟨_, rfl, ?_⟩
               refine hK.out _ _ ⟨(blk_cell BK196.out 0).trans rfl, (blk_cell BK196.out 1).trans rfl⟩ (fun hHeld => ?_)
               clear hK K
               refine norm_ (a' := ?_) ?_ ?_
               rotate_left
               ·
                show Act.put _ (some 43) _ = _
                simp only [Act.put, sa_, sb_, sc_, i64_w, i32_w]
                rfl
               refine pure_ (i := 5) (N := some 44) (v := ?_) (a' := ?_) #[true, true, true, true, true, true, true, true, true, true, false, false, false, false, false] rfl rfl (any_of HT_.out (by kernel_rfl)) (fun _ _ _ h => h) (Or.inl ⟨by rfl, ?_⟩) ?_ ?_
               rotate_left
               ·
                intro w'
                go_simp
                with_reducible rfl
               rotate_left
               ·
                simp only [Act.put, sa_, sb_, sc_, i64_w, i32_w]
                rfl
               refine two_ (i := 10) (j := 13) (Ni := some 49) (Nj := some 11) #[true, true, true, true, true, true, true, true, true, true, true, false, false, false, false] #[true, true, true, true, true, true, true, true, true, true, false, false, false, true, false] rfl rfl rfl rfl (two_of HT_.out (by kernel_rfl)) (by decide) (by decide) (fun K hK => ?_) (fun K hK => ?_)
               ·
                skip
                refine goes_ Tryd.func25 (by kernel_rfl) rfl #[.int .i64 (wrap64 ((wrap64 (100 * (rd l0 x33_2))) * x197000_2)), .int .i64 1000000] (by rfl) rfl rfl (by (try simp only [List.map_toArray, List.map_cons, List.map_nil]); first | done | rfl | (simp only [List.length_drop, List.length_take]; rfl)) ?_
                with_reducible refine (impl_floor.calls (wrap64 ((wrap64 (100 * (rd l0 x33_2))) * x197000_2)) 1000000 t199 _ A18.out).mono ?_
                rintro e w' ⟨rfl, ⟨nd, rfl⟩⟩
                refine ⟨_, rfl, ?_⟩
                refine hK.out _ _ ⟨(blk_cell BK196.out 0).trans rfl, (blk_cell BK196.out 1).trans rfl⟩ (fun hHeld => ?_)
                clear hK K
                refine norm_ (a' := ?_) ?_ ?_
                rotate_left
                ·
                 show Act.put _ (some 49) _ = _
                 simp only [Act.put, sa_, sb_, sc_, i64_w, i32_w]
                 rfl
                refine pure_ (i := 11) (N := some 50) (v := ?_) (a' := ?_) #[true, true, true, true, true, true, true, true, true, true, true, true, false, false, false] rfl rfl (any_of HT_.out (by kernel_rfl)) (fun _ _ _ h => h) (Or.inl ⟨by rfl, ?_⟩) ?_ ?_
                rotate_left
                ·
                 intro w'
                 go_simp
                 with_reducible rfl
                rotate_left
                ·
                 simp only [Act.put, sa_, sb_, sc_, i64_w, i32_w]
                 rfl
                refine pure_ (i := 12) (N := some 51) (v := ?_) (a' := ?_) #[true, true, true, true, true, true, true, true, true, true, true, true, true, false, false] rfl rfl (any_of HT_.out (by kernel_rfl)) (fun _ _ _ h => h) (Or.inl ⟨by rfl, ?_⟩) ?_ ?_
                rotate_left
                ·
                 intro w'
                 go_simp
                 with_reducible rfl
                rotate_left
                ·
                 simp only [Act.put, sa_, sb_, sc_, i64_w, i32_w]
                 rfl
                refine one_ (i := 13) (N := some 11) #[true, true, true, true, true, true, true, true, true, true, true, true, true, true, false] rfl rfl (one_of HT_.out (by kernel_rfl)) (by decide) (fun K hK => ?_)
                refine box_step ?hg (N := 11) ?hd (cs := #[.int .i64 0, .int .i64 0]) (t := 30) ?hr ?_; (case hd => rfl); (case hg => rfl); (case hr => first | (go_simp; done) | (go_simp; rfl))
                intro gb200 hg w23 hbox hb
                have n0_ := Aside0.mk (Kd.R_below (Kd.R_elderB (kr_ HO_6) gb200 (Nat.le_of_eq hg.symm)) hb)
                have n1_ := Aside0.mk (blk_below (g := gb196) (o := .cells #[.int .i64 x197000_2, .int .i64 x197001_2] 30 (0, 0)) (bk_ BK196) hb)
                have n2_ := Aside0.mk (below_step (bl_ HB) hb)
                have n3_ := Aside0.mk (hbox)
                have n4_ := Aside0.mk ((by rw [hg]; exact (below_size (bl_ HB)) : w.heap.size ≤ gb200))
                have n5_ := Aside0.mk ((by rw [hg]; exact (below_size (bl_ HB)) : w.heap.size ≤ gb200))
                have n6_ := Aside0.mk ((by rw [hg]; exact Nat.ne_of_lt (blk_lt (g := gb196) (o := .cells #[.int .i64 x197000_2, .int .i64 x197001_2] 30 (0, 0)) (bk_ BK196)) : gb196 ≠ gb200))
                have n7_ := Aside0.mk ((by rw [hg]; exact Nat.ne_of_gt (blk_lt (g := gb196) (o := .cells #[.int .i64 x197000_2, .int .i64 x197001_2] 30 (0, 0)) (bk_ BK196)) : gb200 ≠ gb196))
                clear HO_6
                clear BK196
                clear HB
                have HO_6 := n0_
                have BK196 := n1_
                have HB := n2_
                have BK200 := n3_
                have GW200 := n4_
                have GE200 := n5_
                have NB196_200 := n6_
                have NB200_196 := n7_
                clear n0_ n1_ n2_ n3_ n4_ n5_ n6_ n7_
                clear hb hbox hg
                refine hK.out _ _ ⟨(blk_cell BK196.out 0).trans rfl, (blk_cell BK196.out 1).trans rfl⟩ (fun hHeld => ?_)
                clear hK K
                refine norm_ (a' := ?_) ?_ ?_
                rotate_left
                ·
                 show Act.put _ (some 11) _ = _
                 simp only [Act.put, sa_, sb_, sc_, i64_w, i32_w]
                 rfl
                exact norm_ (by simp only [putAll, Act.put, sa_, sb_, sc_]) (hCont (gb200) _ ⟨hHeld, (kr_ HO_6), (bk_ BK196), (bk_ BK200), GW200.out, GE200.out, NB196_200.out, NB200_196.out, (bl_ HB)⟩)
               ·
                skip
                refine box_step ?hg (N := 11) ?hd (cs := #[.int .i64 0, .int .i64 0]) (t := 30) ?hr ?_; (case hd => rfl); (case hg => rfl); (case hr => first | (go_simp; done) | (go_simp; rfl))
                intro gb200 hg w23 hbox hb
                have n0_ := Aside0.mk (Kd.R_below (Kd.R_elderB (kr_ HO_6) gb200 (Nat.le_of_eq hg.symm)) hb)
                have n1_ := Aside0.mk (blk_below (g := gb196) (o := .cells #[.int .i64 x197000_2, .int .i64 x197001_2] 30 (0, 0)) (bk_ BK196) hb)
                have n2_ := Aside0.mk (below_step (bl_ HB) hb)
                have n3_ := Aside0.mk (hbox)
                have n4_ := Aside0.mk ((by rw [hg]; exact (below_size (bl_ HB)) : w.heap.size ≤ gb200))
                have n5_ := Aside0.mk ((by rw [hg]; exact (below_size (bl_ HB)) : w.heap.size ≤ gb200))
                have n6_ := Aside0.mk ((by rw [hg]; exact Nat.ne_of_lt (blk_lt (g := gb196) (o := .cells #[.int .i64 x197000_2, .int .i64 x197001_2] 30 (0, 0)) (bk_ BK196)) : gb196 ≠ gb200))
                have n7_ := Aside0.mk ((by rw [hg]; exact Nat.ne_of_gt (blk_lt (g := gb196) (o := .cells #[.int .i64 x197000_2, .int .i64 x197001_2] 30 (0, 0)) (bk_ BK196)) : gb200 ≠ gb196))
                clear HO_6
                clear BK196
                clear HB
                have HO_6 := n0_
                have BK196 := n1_
                have HB := n2_
                have BK200 := n3_
                have GW200 := n4_
                have GE200 := n5_
                have NB196_200 := n6_
                have NB200_196 := n7_
                clear n0_ n1_ n2_ n3_ n4_ n5_ n6_ n7_
                clear hb hbox hg
                refine hK.out _ _ ⟨(blk_cell BK196.out 0).trans rfl, (blk_cell BK196.out 1).trans rfl⟩ (fun hHeld => ?_)
                clear hK K
                refine norm_ (a' := ?_) ?_ ?_
                rotate_left
                ·
                 show Act.put _ (some 11) _ = _
                 simp only [Act.put, sa_, sb_, sc_, i64_w, i32_w]
                 rfl
                refine one_ (i := 10) (N := some 49) #[true, true, true, true, true, true, true, true, true, true, true, false, false, true, false] rfl rfl (one_of HT_.out (by kernel_rfl)) (by decide) (fun K hK => ?_)
                refine goes_ Tryd.func25 (by kernel_rfl) rfl #[.int .i64 (wrap64 ((wrap64 (100 * (rd l0 x33_2))) * x197000_2)), .int .i64 1000000] (by rfl) rfl rfl (by (try simp only [List.map_toArray, List.map_cons, List.map_nil]); first | done | rfl | (simp only [List.length_drop, List.length_take]; rfl)) ?_
                with_reducible refine (impl_floor.calls (wrap64 ((wrap64 (100 * (rd l0 x33_2))) * x197000_2)) 1000000 t199 _ A18.out).mono ?_
                rintro e w' ⟨rfl, ⟨nd, rfl⟩⟩
                refine ⟨_, rfl, ?_⟩
                refine hK.out _ _ ⟨(blk_cell BK196.out 0).trans rfl, (blk_cell BK196.out 1).trans rfl⟩ (fun hHeld => ?_)
                clear hK K
                refine norm_ (a' := ?_) ?_ ?_
                rotate_left
                ·
                 show Act.put _ (some 49) _ = _
                 simp only [Act.put, sa_, sb_, sc_, i64_w, i32_w]
                 rfl
                refine pure_ (i := 11) (N := some 50) (v := ?_) (a' := ?_) #[true, true, true, true, true, true, true, true, true, true, true, true, false, true, false] rfl rfl (any_of HT_.out (by kernel_rfl)) (fun _ _ _ h => h) (Or.inl ⟨by rfl, ?_⟩) ?_ ?_
                rotate_left
                ·
                 intro w'
                 go_simp
                 with_reducible rfl
                rotate_left
                ·
                 simp only [Act.put, sa_, sb_, sc_, i64_w, i32_w]
                 rfl
                refine pure_ (i := 12) (N := some 51) (v := ?_) (a' := ?_) #[true, true, true, true, true, true, true, true, true, true, true, true, true, true, false] rfl rfl (any_of HT_.out (by kernel_rfl)) (fun _ _ _ h => h) (Or.inl ⟨by rfl, ?_⟩) ?_ ?_
                rotate_left
                ·
                 intro w'
                 go_simp
                 with_reducible rfl
                rotate_left
                ·
                 simp only [Act.put, sa_, sb_, sc_, i64_w, i32_w]
                 rfl
                exact norm_ (by simp only [putAll, Act.put, sa_, sb_, sc_]) (hCont (gb200) _ ⟨hHeld, (kr_ HO_6), (bk_ BK196), (bk_ BK200), GW200.out, GE200.out, NB196_200.out, NB200_196.out, (bl_ HB)⟩)
              ·
               skip
               refine box_step ?hg (N := 11) ?hd (cs := #[.int .i64 0, .int .i64 0]) (t := 30) ?hr ?_; (case hd => rfl); (case hg => rfl); (case hr => first | (go_simp; done) | (go_simp; rfl))
               intro gb200 hg w23 hbox hb
               have n0_ := Aside0.mk (Kd.R_below (Kd.R_elderB (kr_ HO_6) gb200 (Nat.le_of_eq hg.symm)) hb)
               have n1_ := Aside0.mk (blk_below (g := gb196) (o := .cells #[.int .i64 x197000_2, .int .i64 x197001_2] 30 (0, 0)) (bk_ BK196) hb)
               have n2_ := Aside0.mk (below_step (bl_ HB) hb)
               have n3_ := Aside0.mk (hbox)
               have n4_ := Aside0.mk ((by rw [hg]; exact (below_size (bl_ HB)) : w.heap.size ≤ gb200))
               have n5_ := Aside0.mk ((by rw [hg]; exact (below_size (bl_ HB)) : w.heap.size ≤ gb200))
               have n6_ := Aside0.mk ((by rw [hg]; exact Nat.ne_of_lt (blk_lt (g := gb196) (o := .cells #[.int .i64 x197000_2, .int .i64 x197001_2] 30 (0, 0)) (bk_ BK196)) : gb196 ≠ gb200))
               have n7_ := Aside0.mk ((by rw [hg]; exact Nat.ne_of_gt (blk_lt (g := gb196) (o := .cells #[.int .i64 x197000_2, .int .i64 x197001_2] 30 (0, 0)) (bk_ BK196)) : gb200 ≠ gb196))
               clear HO_6
               clear BK196
               clear HB
               have HO_6 := n0_
               have BK196 := n1_
               have HB := n2_
               have BK200 := n3_
               have GW200 := n4_
               have GE200 := n5_
               have NB196_200 := n6_
               have NB200_196 := n7_
               clear n0_ n1_ n2_ n3_ n4_ n5_ n6_ n7_
               clear hb hbox hg
               refine hK.out _ _ ⟨(blk_cell BK196.out 0).trans rfl, (blk_cell BK196.out 1).trans rfl⟩ (fun hHeld => ?_)
               clear hK K
               refine norm_ (a' := ?_) ?_ ?_
               rotate_left
               ·
                show Act.put _ (some 11) _ = _
                simp only [Act.put, sa_, sb_, sc_, i64_w, i32_w]
                rfl
               refine one_ (i := 4) (N := some 43) #[true, true, true, true, true, false, true, true, true, true, false, false, false, true, false] rfl rfl (one_of HT_.out (by kernel_rfl)) (by decide) (fun K hK => ?_)
               refine goes_ Tryd.func24 (by kernel_rfl) rfl #[.int .i64 (wrap64 ((wrap64 (100 * (rd l0 x33_2))) * x197001_2)), .int .i64 1000000] (by rfl) rfl rfl (by (try simp only [List.map_toArray, List.map_cons, List.map_nil]); first | done | rfl | (simp only [List.length_drop, List.length_take]; rfl)) ?_
               with_reducible refine (impl_ceil.calls (wrap64 ((wrap64 (100 * (rd l0 x33_2))) * x197001_2)) 1000000 t198 _ A17.out).mono ?_
               rintro e w' ⟨rfl, ⟨nd, rfl⟩⟩
               refine ⟨_, rfl, ?_⟩
               refine hK.out _ _ ⟨(blk_cell BK196.out 0).trans rfl, (blk_cell BK196.out 1).trans rfl⟩ (fun hHeld => ?_)
               clear hK K
               refine norm_ (a' := ?_) ?_ ?_
               rotate_left
               ·
                show Act.put _ (some 43) _ = _
                simp only [Act.put, sa_, sb_, sc_, i64_w, i32_w]
                rfl
               refine pure_ (i := 5) (N := some 44) (v := ?_) (a' := ?_) #[true, true, true, true, true, true, true, true, true, true, false, false, false, true, false] rfl rfl (any_of HT_.out (by kernel_rfl)) (fun _ _ _ h => h) (Or.inl ⟨by rfl, ?_⟩) ?_ ?_
               rotate_left
               ·
                intro w'
                go_simp
                with_reducible rfl
               rotate_left
               ·
                simp only [Act.put, sa_, sb_, sc_, i64_w, i32_w]
                rfl
               refine one_ (i := 10) (N := some 49) #[true, true, true, true, true, true, true, true, true, true, true, false, false, true, false] rfl rfl (one_of HT_.out (by kernel_rfl)) (by decide) (fun K hK => ?_)
               refine goes_ Tryd.func25 (by kernel_rfl) rfl #[.int .i64 (wrap64 ((wrap64 (100 * (rd l0 x33_2))) * x197000_2)), .int .i64 1000000] (by rfl) rfl rfl (by (try simp only [List.map_toArray, List.map_cons, List.map_nil]); first | done | rfl | (simp only [List.length_drop, List.length_take]; rfl)) ?_
               with_reducible refine (impl_floor.calls (wrap64 ((wrap64 (100 * (rd l0 x33_2))) * x197000_2)) 1000000 t199 _ A18.out).mono ?_
               rintro e w' ⟨rfl, ⟨nd, rfl⟩⟩
               refine ⟨_, rfl, ?_⟩
               refine hK.out _ _ ⟨(blk_cell BK196.out 0).trans rfl, (blk_cell BK196.out 1).trans rfl⟩ (fun hHeld => ?_)
               clear hK K
               refine norm_ (a' := ?_) ?_ ?_
               rotate_left
               ·
                show Act.put _ (some 49) _ = _
                simp only [Act.put, sa_, sb_, sc_, i64_w, i32_w]
                rfl
               refine pure_ (i := 11) (N := some 50) (v := ?_) (a' := ?_) #[true, true, true, true, true, true, true, true, true, true, true, true, false, true, false] rfl rfl (any_of HT_.out (by kernel_rfl)) (fun _ _ _ h => h) (Or.inl ⟨by rfl, ?_⟩) ?_ ?_
               rotate_left
               ·
                intro w'
                go_simp
                with_reducible rfl
               rotate_left
               ·
                simp only [Act.put, sa_, sb_, sc_, i64_w, i32_w]
                rfl
               refine pure_ (i := 12) (N := some 51) (v := ?_) (a' := ?_) #[true, true, true, true, true, true, true, true, true, true, true, true, true, true, false] rfl rfl (any_of HT_.out (by kernel_rfl)) (fun _ _ _ h => h) (Or.inl ⟨by rfl, ?_⟩) ?_ ?_
               rotate_left
               ·
                intro w'
                go_simp
                with_reducible rfl
               rotate_left
               ·
                simp only [Act.put, sa_, sb_, sc_, i64_w, i32_w]
                rfl
               exact norm_ (by simp only [putAll, Act.put, sa_, sb_, sc_]) (hCont (gb200) _ ⟨hHeld, (kr_ HO_6), (bk_ BK196), (bk_ BK200), GW200.out, GE200.out, NB196_200.out, NB200_196.out, (bl_ HB)⟩)
             rintro gb200 w24 ⟨hS_, h0_, h1_, h2_, h3_, h4_, h5_, h6_, h7_⟩
             have n0_ : Aside0 (Kd.R k30 30 w24 w.heap.size (fun k_ => k_ ≠ gb196 ∧ k_ ≠ gb200) u6 x6_2) := ⟨h0_⟩
             have n1_ : Aside0 (w24.heap[gb196]? = some (.cells #[.int .i64 x197000_2, .int .i64 x197001_2] 30 (0, 0))) := ⟨h1_⟩
             have n2_ : Aside0 (w24.heap[gb200]? = some (.cells #[.int .i64 0, .int .i64 0] 30 (0, 0))) := ⟨h2_⟩
             have n3_ : Aside0 (w.heap.size ≤ gb200) := ⟨h3_⟩
             have n4_ : Aside0 (w.heap.size ≤ gb200) := ⟨h4_⟩
             have n5_ : Aside0 (gb196 ≠ gb200) := ⟨h5_⟩
             have n6_ : Aside0 (gb200 ≠ gb196) := ⟨h6_⟩
             have n7_ : Aside0 (Below w.heap.size w w24) := ⟨h7_⟩
             clear HO_6
             clear BK196
             clear HB
             clear h0_ h1_ h2_ h3_ h4_ h5_ h6_ h7_
             have HO_6 := n0_
             have BK196 := n1_
             have BK200 := n2_
             have GW200 := n3_
             have GE200 := n4_
             have NB196_200 := n5_
             have NB200_196 := n6_
             have HB := n7_
             clear n0_ n1_ n2_ n3_ n4_ n5_ n6_ n7_
             have hHeld : w24.cell? ⟨gb196, 0, none⟩ = some (.int .i64 x197000_2) ∧ w24.cell? ⟨gb196, 1, none⟩ = some (.int .i64 x197001_2) := hS_
             refine norm_ (a' := ?_) ?_ ?_
             rotate_left
             ·
              simp only [putAll, Act.put, sa_, sb_, sc_]
              rfl
             refine one_ (i := 14) (N := none) #[true, true, true, true, true, true, true, true, true, true, true, true, true, true, true] rfl rfl (one_of HT_.out (by kernel_rfl)) (by decide) (fun K hK => ?_)
             have hs25 : w24.cell? ⟨gb200, 0, none⟩ = some (.int .i64 0) := (blk_cell BK200.out 0).trans rfl
             have hfs25 := blk_frozen BK200.out 0
             have hns25_0 := NB196_200.out
             have hms25_0 := NB200_196.out
             have hs26 : w24.cell? ⟨gb200, 1, none⟩ = some (.int .i64 0) := (blk_cell BK200.out 1).trans rfl
             have hfs26 := blk_frozen BK200.out 1
             have hns26_0 := NB196_200.out
             have hms26_0 := NB200_196.out
             refine skip_ (w1 := ?_) (by rfl) rfl ?_ ?_
             rotate_left
             ·
              go_simp
              rfl
             refine hK.out _ _ ⟨((cell_far (p := ⟨gb200, _, none⟩) NB196_200.out _).trans (((cell_far (p := ⟨gb200, _, none⟩) NB196_200.out _).trans (hHeld.1)))), ((cell_far (p := ⟨gb200, _, none⟩) NB196_200.out _).trans (((cell_far (p := ⟨gb200, _, none⟩) NB196_200.out _).trans (hHeld.2))))⟩ (fun hHeld => ?_)
             clear hK K
             refine done_ (done_of HT_.out (by kernel_rfl)) ?_
             try go_wp2
             have n0_ : Aside0 (Kd.R k30 30 ((w24.setCell ⟨gb200, 0, none⟩ (.int .i64 (wrap64 (1000000 - t198)))).setCell ⟨gb200, 1, none⟩ (.int .i64 (wrap64 (1000000 - t199)))) w.heap.size (fun k_ => k_ ≠ gb196 ∧ k_ ≠ gb200) u6 x6_2) := ⟨by (with_reducible repeat (first | apply Kd.R_alloc | apply Kd.R_drewN | apply Kd.R_drew)); exact Kd.R_mono (Kd.R_far (p := ⟨gb200, 1, none⟩) (Kd.R_far (p := ⟨gb200, 0, none⟩) (Kd.R_mono HO_6.out (fun k_ hk => (⟨hk, hk.2⟩ : _ ∧ k_ ≠ gb200))) (fun _ hk => hk.2) (.int .i64 (wrap64 (1000000 - t198)))) (fun _ hk => hk.2) (.int .i64 (wrap64 (1000000 - t199)))) (fun _ hk => ⟨hk.1.1, hk.1.2⟩)⟩
             have n1_ : Aside0 (((w24.setCell ⟨gb200, 0, none⟩ (.int .i64 (wrap64 (1000000 - t198)))).setCell ⟨gb200, 1, none⟩ (.int .i64 (wrap64 (1000000 - t199)))).heap[gb196]? = some (.cells #[.int .i64 x197000_2, .int .i64 x197001_2] 30 (0, 0))) := ⟨by (with_reducible repeat (first | refine blk_drewN ?_ _ | refine blk_drew ?_ | refine blk_alloc ?_ _)); refine blk_far ?_ NB196_200.out _; (with_reducible repeat (first | refine blk_drewN ?_ _ | refine blk_drew ?_ | refine blk_alloc ?_ _)); refine blk_far ?_ NB196_200.out _; (with_reducible repeat (first | refine blk_drewN ?_ _ | refine blk_drew ?_ | refine blk_alloc ?_ _)); exact BK196.out⟩
             have n2_ : Aside0 (((w24.setCell ⟨gb200, 0, none⟩ (.int .i64 (wrap64 (1000000 - t198)))).setCell ⟨gb200, 1, none⟩ (.int .i64 (wrap64 (1000000 - t199)))).heap[gb200]? = some (.cells #[.int .i64 (wrap64 (1000000 - t198)), .int .i64 (wrap64 (1000000 - t199))] 30 (0, 0))) := ⟨by (with_reducible repeat (first | refine blk_drewN ?_ _ | refine blk_drew ?_ | refine blk_alloc ?_ _)); refine blk_put (cs := #[.int .i64 (wrap64 (1000000 - t198)), .int .i64 0]) ?_ 1 _ rfl; (with_reducible repeat (first | refine blk_drewN ?_ _ | refine blk_drew ?_ | refine blk_alloc ?_ _)); refine blk_put (cs := #[.int .i64 0, .int .i64 0]) ?_ 0 _ rfl; (with_reducible repeat (first | refine blk_drewN ?_ _ | refine blk_drew ?_ | refine blk_alloc ?_ _)); exact BK200.out⟩
             have n3_ : Aside0 (Below w.heap.size w ((w24.setCell ⟨gb200, 0, none⟩ (.int .i64 (wrap64 (1000000 - t198)))).setCell ⟨gb200, 1, none⟩ (.int .i64 (wrap64 (1000000 - t199))))) := ⟨by repeat (first | (with_reducible first | exact HB.out | apply below_alloc | apply pw_below_drewN | apply below_drew1 | refine below_set ?_ GE196.out | refine below_set ?_ GE200.out) | exact HB.out)⟩
             (try clear HO_6)
             (try clear BK196)
             (try clear BK200)
             (try clear HB)
             generalize ((w24.setCell ⟨gb200, 0, none⟩ (.int .i64 (wrap64 (1000000 - t198)))).setCell ⟨gb200, 1, none⟩ (.int .i64 (wrap64 (1000000 - t199)))) = w27 at n0_ n1_ n2_ n3_ ⊢
             have HO_6 := n0_
             have BK196 := n1_
             have BK200 := n2_
             have HB := n3_
             clear n0_ n1_ n2_ n3_
             have n0_ := Aside0.mk (Kd.R_drew HO_6.out)
             have n1_ := Aside0.mk (blk_drew BK196.out)
             have n2_ := Aside0.mk (blk_drew BK200.out)
             have n3_ := Aside0.mk (below_drew1 HB.out)
             clear HO_6
             clear BK196
             clear BK200
             clear HB
             have HO_6 := n0_
             have BK196 := n1_
             have BK200 := n2_
             have HB := n3_
             clear n0_ n1_ n2_ n3_
             refine start_ (n := 11) (S := fun w' => w'.cell? ⟨gb200, 0, none⟩ = some (.int .i64 (wrap64 (1000000 - t198))) ∧ w'.cell? ⟨gb200, 1, none⟩ = some (.int .i64 (wrap64 (1000000 - t199)))) (ds := []) #[false, false, false, false, false, false, false, false, false, false, false] (by kernel_rfl) rfl rfl ⟨(blk_cell BK200.out 0).trans rfl, (blk_cell BK200.out 1).trans rfl⟩ (fun hHeld => ?_); refine with_tabW impl_CurveOf.tab16 impl_CurveOf.bits16 (fun HT_ HW_ => ?_)
             generalize w27.drew = w28 at HO_6 BK196 BK200 HB hHeld ⊢
             refine pure_ (i := 1) (N := some 54) (v := ?_) (a' := ?_) #[false, true, false, false, false, false, false, false, false, false, false] rfl rfl (any_of HT_.out (by kernel_rfl)) (fun _ _ _ h => h) (Or.inl ⟨by rfl, ?_⟩) ?_ ?_
             rotate_left
             ·
              intro w'
              go_simp
              with_reducible rfl
             rotate_left
             ·
              simp only [Act.put, sa_, sb_, sc_, i64_w, i32_w]
              rfl
             refine pure_ (i := 2) (N := some 55) (v := ?_) (a' := ?_) #[false, true, true, false, false, false, false, false, false, false, false] rfl rfl (any_of HT_.out (by kernel_rfl)) (fun _ _ _ h => h) (Or.inl ⟨by rfl, ?_⟩) ?_ ?_
             rotate_left
             ·
              intro w'
              go_simp
              with_reducible rfl
             rotate_left
             ·
              simp only [Act.put, sa_, sb_, sc_, i64_w, i32_w]
              rfl
             refine take_ (i := 0) (N := some 53) (v := ?_) (a' := ?_) #[true, true, true, false, false, false, false, false, false, false, false] rfl rfl (take_ofW HT_.out HW_.out (by kernel_rfl)) (fun _ _ _ h => h) (Or.inl ⟨by rfl, ?_⟩) hHeld ?_ ?_
             rotate_left
             ·
              rintro w' ⟨s0, s1⟩
              go_simp
              with_reducible rfl
             rotate_left
             ·
              simp only [Act.put, sa_, sb_, sc_, i64_w, i32_w]
              rfl
             refine join_ (σ := Nat) 2 #[true, true, true, true, true, true, true, true, true, false, false] (fun s_ => [(56, .agg #[.int .i64 t201, .int .i64 t202]), (57, .tuple #[.agg #[.int .i64 t203, .int .i64 t204], errW t205]), (12, .pointer (some ⟨s_, 0, none⟩)), (52, .tuple #[.agg #[.int .i64 t203, .int .i64 t204], errW t205]), (58, .agg #[.int .i64 t203, .int .i64 t204]), (59, errW t205)]) (fun s_ w' => (w'.cell? ⟨gb200, 0, none⟩ = some (.int .i64 (wrap64 (1000000 - t198))) ∧ w'.cell? ⟨gb200, 1, none⟩ = some (.int .i64 (wrap64 (1000000 - t199)))) ∧ (Kd.R k30 30 w' w.heap.size (fun k_ => k_ ≠ gb196 ∧ k_ ≠ gb200 ∧ k_ ≠ s_) u6 x6_2) ∧ (w'.heap[gb196]? = some (.cells #[.int .i64 x197000_2, .int .i64 x197001_2] 30 (0, 0))) ∧ (w'.heap[gb200]? = some (.cells #[.int .i64 (wrap64 (1000000 - t198)), .int .i64 (wrap64 (1000000 - t199))] 30 (0, 0))) ∧ (w'.heap[s_]? = some (.cells #[.int .i64 0, .int .i64 0] 30 (0, 0))) ∧ (w.heap.size ≤ s_) ∧ (w.heap.size ≤ s_) ∧ (gb196 ≠ s_) ∧ (s_ ≠ gb196) ∧ (gb200 ≠ s_) ∧ (s_ ≠ gb200) ∧ (Below w.heap.size w w')) ?_ ?_
             rotate_left
             ·
              intro hCont
              refine two_ (i := 3) (j := 8) (Ni := some 56) (Nj := some 12) #[true, true, true, true, false, false, false, false, false, false, false] #[true, true, true, false, false, false, false, false, true, false, false] rfl rfl rfl rfl (two_of HT_.out (by kernel_rfl)) (by decide) (by decide) (fun K hK => ?_) (fun K hK => ?_)
              ·
               skip
               refine goes_ Tryd.func27 (by kernel_rfl) rfl #[.int .i64 (wrap64 (1000000 + (wrap64 (100 * (rd l0 x33_2)))))] (by rfl) rfl rfl (by (try simp only [List.map_toArray, List.map_cons, List.map_nil]); first | done | rfl | (simp only [List.length_drop, List.length_take]; rfl)) ?_
               with_reducible refine (impl_exactly.calls (wrap64 (1000000 + (wrap64 (100 * (rd l0 x33_2))))) t201 t202 _ A19.out).mono ?_
               rintro e w29 ⟨rfl, hb⟩
               refine ⟨_, rfl, ?_⟩
               have n0_ := Aside0.mk (Kd.R_below (kr_ HO_6) hb)
               have n1_ := Aside0.mk (blk_below (g := gb196) (o := .cells #[.int .i64 x197000_2, .int .i64 x197001_2] 30 (0, 0)) (bk_ BK196) hb)
               have n2_ := Aside0.mk (blk_below (g := gb200) (o := .cells #[.int .i64 (wrap64 (1000000 - t198)), .int .i64 (wrap64 (1000000 - t199))] 30 (0, 0)) (bk_ BK200) hb)
               have n3_ := Aside0.mk (below_step (bl_ HB) hb)
               clear HO_6
               clear BK196
               clear BK200
               clear HB
               have HO_6 := n0_
               have BK196 := n1_
               have BK200 := n2_
               have HB := n3_
               clear n0_ n1_ n2_ n3_
               (try clear hb)
               (try clear hb2)
               (try clear hk)
               (try clear hi)
               refine hK.out _ _ ⟨(blk_cell BK200.out 0).trans rfl, (blk_cell BK200.out 1).trans rfl⟩ (fun hHeld => ?_)
               clear hK K
               refine norm_ (a' := ?_) ?_ ?_
               rotate_left
               ·
                show Act.put _ (some 56) _ = _
                simp only [Act.put, sa_, sb_, sc_, i64_w, i32_w]
                rfl
               refine two_ (i := 4) (j := 8) (Ni := some 57) (Nj := some 12) #[true, true, true, true, true, false, false, false, false, false, false] #[true, true, true, true, false, false, false, false, true, false, false] rfl rfl rfl rfl (two_of HT_.out (by kernel_rfl)) (by decide) (by decide) (fun K hK => ?_) (fun K hK => ?_)
               ·
                skip
                refine goes_ Tryd.func26 (by kernel_rfl) rfl #[.agg #[.int .i64 (wrap64 (1000000 - t198)), .int .i64 (wrap64 (1000000 - t199))], .agg #[.int .i64 t201, .int .i64 t202]] (by rfl) rfl rfl (by (try simp only [List.map_toArray, List.map_cons, List.map_nil]); first | done | rfl | (simp only [List.length_drop, List.length_take]; rfl)) ?_
                with_reducible refine (impl_Range_through.calls (wrap64 (1000000 - t198)) (wrap64 (1000000 - t199)) t201 t202 t203 t204 t205 _ ?side1 A20.out).mono ?_
                (case side1 => first | exact HTab.out | exact Tab.below HTab.out (bl_ HB))
                rintro e w30 ⟨rfl, hb⟩
                refine ⟨_, rfl, ?_⟩
                have n0_ := Aside0.mk (Kd.R_below (kr_ HO_6) hb)
                have n1_ := Aside0.mk (blk_below (g := gb196) (o := .cells #[.int .i64 x197000_2, .int .i64 x197001_2] 30 (0, 0)) (bk_ BK196) hb)
                have n2_ := Aside0.mk (blk_below (g := gb200) (o := .cells #[.int .i64 (wrap64 (1000000 - t198)), .int .i64 (wrap64 (1000000 - t199))] 30 (0, 0)) (bk_ BK200) hb)
                have n3_ := Aside0.mk (below_step (bl_ HB) hb)
                clear HO_6
                clear BK196
                clear BK200
                clear HB
                have HO_6 := n0_
                have BK196 := n1_
                have BK200 := n2_
                have HB := n3_
                clear n0_ n1_ n2_ n3_
                (try clear hb)
                (try clear hb2)
                (try clear hk)
                (try clear hi)
                (try simp only [errW_none, errW_some])
                refine hK.out _ _ ⟨(blk_cell BK200.out 0).trans rfl, (blk_cell BK200.out 1).trans rfl⟩ (fun hHeld => ?_)
                clear hK K
                refine norm_ (a' := ?_) ?_ ?_
                rotate_left
                ·
                 show Act.put _ (some 57) _ = _
                 simp only [Act.put, sa_, sb_, sc_, i64_w, i32_w]
                 rfl
                refine pure_ (i := 5) (N := some 52) (v := ?_) (a' := ?_) #[true, true, true, true, true, true, false, false, false, false, false] rfl rfl (any_of HT_.out (by kernel_rfl)) (fun _ _ _ h => h) (Or.inl ⟨by rfl, ?_⟩) ?_ ?_
                rotate_left
                ·
                 intro w'
                 go_simp
                 with_reducible rfl
                rotate_left
                ·
                 simp only [Act.put, sa_, sb_, sc_, i64_w, i32_w]
                 rfl
                refine pure_ (i := 6) (N := some 58) (v := ?_) (a' := ?_) #[true, true, true, true, true, true, true, false, false, false, false] rfl rfl (any_of HT_.out (by kernel_rfl)) (fun _ _ _ h => h) (Or.inl ⟨by rfl, ?_⟩) ?_ ?_
                rotate_left
                ·
                 intro w'
                 go_simp
                 with_reducible rfl
                rotate_left
                ·
                 simp only [Act.put, sa_, sb_, sc_, i64_w, i32_w]
                 rfl
                refine pure_ (i := 7) (N := some 59) (v := ?_) (a' := ?_) #[true, true, true, true, true, true, true, true, false, false, false] rfl rfl (any_of HT_.out (by kernel_rfl)) (fun _ _ _ h => h) (Or.inl ⟨by rfl, ?_⟩) ?_ ?_
                rotate_left
                ·
                 intro w'
                 go_simp
                 with_reducible rfl
                rotate_left
                ·
                 simp only [Act.put, sa_, sb_, sc_, i64_w, i32_w]
                 rfl
                refine one_ (i := 8) (N := some 12) #[true, true, true, true, true, true, true, true, true, false, false] rfl rfl (one_of HT_.out (by kernel_rfl)) (by decide) (fun K hK => ?_)
                refine box_step ?hg (N := 12) ?hd (cs := #[.int .i64 0, .int .i64 0]) (t := 30) ?hr ?_; (case hd => rfl); (case hg => rfl); (case hr => first | (go_simp; done) | (go_simp; rfl))
                intro gb206 hg w31 hbox hb
                have n0_ := Aside0.mk (Kd.R_below (Kd.R_elderB (kr_ HO_6) gb206 (Nat.le_of_eq hg.symm)) hb)
                have n1_ := Aside0.mk (blk_below (g := gb196) (o := .cells #[.int .i64 x197000_2, .int .i64 x197001_2] 30 (0, 0)) (bk_ BK196) hb)
                have n2_ := Aside0.mk (blk_below (g := gb200) (o := .cells #[.int .i64 (wrap64 (1000000 - t198)), .int .i64 (wrap64 (1000000 - t199))] 30 (0, 0)) (bk_ BK200) hb)
                have n3_ := Aside0.mk (below_step (bl_ HB) hb)
                have n4_ := Aside0.mk (hbox)
                have n5_ := Aside0.mk ((by rw [hg]; exact (below_size (bl_ HB)) : w.heap.size ≤ gb206))
                have n6_ := Aside0.mk ((by rw [hg]; exact (below_size (bl_ HB)) : w.heap.size ≤ gb206))
                have n7_ := Aside0.mk ((by rw [hg]; exact Nat.ne_of_lt (blk_lt (g := gb196) (o := .cells #[.int .i64 x197000_2, .int .i64 x197001_2] 30 (0, 0)) (bk_ BK196)) : gb196 ≠ gb206))
                have n8_ := Aside0.mk ((by rw [hg]; exact Nat.ne_of_gt (blk_lt (g := gb196) (o := .cells #[.int .i64 x197000_2, .int .i64 x197001_2] 30 (0, 0)) (bk_ BK196)) : gb206 ≠ gb196))
                have n9_ := Aside0.mk ((by rw [hg]; exact Nat.ne_of_lt (blk_lt (g := gb200) (o := .cells #[.int .i64 (wrap64 (1000000 - t198)), .int .i64 (wrap64 (1000000 - t199))] 30 (0, 0)) (bk_ BK200)) : gb200 ≠ gb206))
                have n10_ := Aside0.mk ((by rw [hg]; exact Nat.ne_of_gt (blk_lt (g := gb200) (o := .cells #[.int .i64 (wrap64 (1000000 - t198)), .int .i64 (wrap64 (1000000 - t199))] 30 (0, 0)) (bk_ BK200)) : gb206 ≠ gb200))
                clear HO_6
                clear BK196
                clear BK200
                clear HB
                have HO_6 := n0_
                have BK196 := n1_
                have BK200 := n2_
                have HB := n3_
                have BK206 := n4_
                have GW206 := n5_
                have GE206 := n6_
                have NB196_206 := n7_
                have NB206_196 := n8_
                have NB200_206 := n9_
                have NB206_200 := n10_
                clear n0_ n1_ n2_ n3_ n4_ n5_ n6_ n7_ n8_ n9_ n10_
                clear hb hbox hg
                refine hK.out _ _ ⟨(blk_cell BK200.out 0).trans rfl, (blk_cell BK200.out 1).trans rfl⟩ (fun hHeld => ?_)
                clear hK K
                refine norm_ (a' := ?_) ?_ ?_
                rotate_left
                ·
                 show Act.put _ (some 12) _ = _
                 simp only [Act.put, sa_, sb_, sc_, i64_w, i32_w]
                 rfl
                exact norm_ (by simp only [putAll, Act.put, sa_, sb_, sc_]) (hCont (gb206) _ ⟨hHeld, (by (with_reducible repeat (first | apply Kd.R_alloc | apply Kd.R_drewN | apply Kd.R_drew)); exact Kd.R_mono HO_6.out (fun _ hk => ⟨hk.1.1, ⟨hk.1.2, hk.2⟩⟩)), (bk_ BK196), (bk_ BK200), (bk_ BK206), GW206.out, GE206.out, NB196_206.out, NB206_196.out, NB200_206.out, NB206_200.out, (bl_ HB)⟩)
               ·
                skip
                refine box_step ?hg (N := 12) ?hd (cs := #[.int .i64 0, .int .i64 0]) (t := 30) ?hr ?_; (case hd => rfl); (case hg => rfl); (case hr => first | (go_simp; done) | (go_simp; rfl))
                intro gb206 hg w30 hbox hb
                have n0_ := Aside0.mk (Kd.R_below (Kd.R_elderB (kr_ HO_6) gb206 (Nat.le_of_eq hg.symm)) hb)
                have n1_ := Aside0.mk (blk_below (g := gb196) (o := .cells #[.int .i64 x197000_2, .int .i64 x197001_2] 30 (0, 0)) (bk_ BK196) hb)
                have n2_ := Aside0.mk (blk_below (g := gb200) (o := .cells #[.int .i64 (wrap64 (1000000 - t198)), .int .i64 (wrap64 (1000000 - t199))] 30 (0, 0)) (bk_ BK200) hb)
                have n3_ := Aside0.mk (below_step (bl_ HB) hb)
                have n4_ := Aside0.mk (hbox)
                have n5_ := Aside0.mk ((by rw [hg]; exact (below_size (bl_ HB)) : w.heap.size ≤ gb206))
                have n6_ := Aside0.mk ((by rw [hg]; exact (below_size (bl_ HB)) : w.heap.size ≤ gb206))
                have n7_ := Aside0.mk ((by rw [hg]; exact Nat.ne_of_lt (blk_lt (g := gb196) (o := .cells #[.int .i64 x197000_2, .int .i64 x197001_2] 30 (0, 0)) (bk_ BK196)) : gb196 ≠ gb206))
                have n8_ := Aside0.mk ((by rw [hg]; exact Nat.ne_of_gt (blk_lt (g := gb196) (o := .cells #[.int .i64 x197000_2, .int .i64 x197001_2] 30 (0, 0)) (bk_ BK196)) : gb206 ≠ gb196))
                have n9_ := Aside0.mk ((by rw [hg]; exact Nat.ne_of_lt (blk_lt (g := gb200) (o := .cells #[.int .i64 (wrap64 (1000000 - t198)), .int .i64 (wrap64 (1000000 - t199))] 30 (0, 0)) (bk_ BK200)) : gb200 ≠ gb206))
                have n10_ := Aside0.mk ((by rw [hg]; exact Nat.ne_of_gt (blk_lt (g := gb200) (o := .cells #[.int .i64 (wrap64 (1000000 - t198)), .int .i64 (wrap64 (1000000 - t199))] 30 (0, 0)) (bk_ BK200)) : gb206 ≠ gb200))
                clear HO_6
                clear BK196
                clear BK200
                clear HB
                have HO_6 := n0_
                have BK196 := n1_
                have BK200 := n2_
                have HB := n3_
                have BK206 := n4_
                have GW206 := n5_
                have GE206 := n6_
                have NB196_206 := n7_
                have NB206_196 := n8_
                have NB200_206 := n9_
                have NB206_200 := n10_
                clear n0_ n1_ n2_ n3_ n4_ n5_ n6_ n7_ n8_ n9_ n10_
                clear hb hbox hg
                refine hK.out _ _ ⟨(blk_cell BK200.out 0).trans rfl, (blk_cell BK200.out 1).trans rfl⟩ (fun hHeld => ?_)
                clear hK K
                refine norm_ (a' := ?_) ?_ ?_
                rotate_left
                ·
                 show Act.put _ (some 12) _ = _
                 simp only [Act.put, sa_, sb_, sc_, i64_w, i32_w]
                 rfl
                refine one_ (i := 4) (N := some 57) #[true, true, true, true, true, false, false, false, true, false, false] rfl rfl (one_of HT_.out (by kernel_rfl)) (by decide) (fun K hK => ?_)
                refine goes_ Tryd.func26 (by kernel_rfl) rfl #[.agg #[.int .i64 (wrap64 (1000000 - t198)), .int .i64 (wrap64 (1000000 - t199))], .agg #[.int .i64 t201, .int .i64 t202]] (by rfl) rfl rfl (by (try simp only [List.map_toArray, List.map_cons, List.map_nil]); first | done | rfl | (simp only [List.length_drop, List.length_take]; rfl)) ?_
                with_reducible refine (impl_Range_through.calls (wrap64 (1000000 - t198)) (wrap64 (1000000 - t199)) t201 t202 t203 t204 t205 _ ?side1 A20.out).mono ?_
                (case side1 => first | exact HTab.out | exact Tab.below HTab.out (bl_ HB))
                rintro e w31 ⟨rfl, hb⟩
                refine ⟨_, rfl, ?_⟩
                have n0_ := Aside0.mk (Kd.R_below (kr_ HO_6) hb)
                have n1_ := Aside0.mk (blk_below (g := gb196) (o := .cells #[.int .i64 x197000_2, .int .i64 x197001_2] 30 (0, 0)) (bk_ BK196) hb)
                have n2_ := Aside0.mk (blk_below (g := gb200) (o := .cells #[.int .i64 (wrap64 (1000000 - t198)), .int .i64 (wrap64 (1000000 - t199))] 30 (0, 0)) (bk_ BK200) hb)
                have n3_ := Aside0.mk (blk_below (g := gb206) (o := .cells #[.int .i64 0, .int .i64 0] 30 (0, 0)) (bk_ BK206) hb)
                have n4_ := Aside0.mk (below_step (bl_ HB) hb)
                clear HO_6
                clear BK196
                clear BK200
                clear BK206
                clear HB
                have HO_6 := n0_
                have BK196 := n1_
                have BK200 := n2_
                have BK206 := n3_
                have HB := n4_
                clear n0_ n1_ n2_ n3_ n4_
                (try clear hb)
                (try clear hb2)
                (try clear hk)
                (try clear hi)
                (try simp only [errW_none, errW_some])
                refine hK.out _ _ ⟨(blk_cell BK200.out 0).trans rfl, (blk_cell BK200.out 1).trans rfl⟩ (fun hHeld => ?_)
                clear hK K
                refine norm_ (a' := ?_) ?_ ?_
                rotate_left
                ·
                 show Act.put _ (some 57) _ = _
                 simp only [Act.put, sa_, sb_, sc_, i64_w, i32_w]
                 rfl
                refine pure_ (i := 5) (N := some 52) (v := ?_) (a' := ?_) #[true, true, true, true, true, true, false, false, true, false, false] rfl rfl (any_of HT_.out (by kernel_rfl)) (fun _ _ _ h => h) (Or.inl ⟨by rfl, ?_⟩) ?_ ?_
                rotate_left
                ·
                 intro w'
                 go_simp
                 with_reducible rfl
                rotate_left
                ·
                 simp only [Act.put, sa_, sb_, sc_, i64_w, i32_w]
                 rfl
                refine pure_ (i := 6) (N := some 58) (v := ?_) (a' := ?_) #[true, true, true, true, true, true, true, false, true, false, false] rfl rfl (any_of HT_.out (by kernel_rfl)) (fun _ _ _ h => h) (Or.inl ⟨by rfl, ?_⟩) ?_ ?_
                rotate_left
                ·
                 intro w'
                 go_simp
                 with_reducible rfl
                rotate_left
                ·
                 simp only [Act.put, sa_, sb_, sc_, i64_w, i32_w]
                 rfl
                refine pure_ (i := 7) (N := some 59) (v := ?_) (a' := ?_) #[true, true, true, true, true, true, true, true, true, false, false] rfl rfl (any_of HT_.out (by kernel_rfl)) (fun _ _ _ h => h) (Or.inl ⟨by rfl, ?_⟩) ?_ ?_
                rotate_left
                ·
                 intro w'
                 go_simp
                 with_reducible rfl
                rotate_left
                ·
                 simp only [Act.put, sa_, sb_, sc_, i64_w, i32_w]
                 rfl
                exact norm_ (by simp only [putAll, Act.put, sa_, sb_, sc_]) (hCont (gb206) _ ⟨hHeld, (by (with_reducible repeat (first | apply Kd.R_alloc | apply Kd.R_drewN | apply Kd.R_drew)); exact Kd.R_mono HO_6.out (fun _ hk => ⟨hk.1.1, ⟨hk.1.2, hk.2⟩⟩)), (bk_ BK196), (bk_ BK200), (bk_ BK206), GW206.out, GE206.out, NB196_206.out, NB206_196.out, NB200_206.out, NB206_200.out, (bl_ HB)⟩)
              ·
               skip
               refine box_step ?hg (N := 12) ?hd (cs := #[.int .i64 0, .int .i64 0]) (t := 30) ?hr ?_; (case hd => rfl); (case hg => rfl); (case hr => first | (go_simp; done) | (go_simp; rfl))
               intro gb206 hg w29 hbox hb
               have n0_ := Aside0.mk (Kd.R_below (Kd.R_elderB (kr_ HO_6) gb206 (Nat.le_of_eq hg.symm)) hb)
               have n1_ := Aside0.mk (blk_below (g := gb196) (o := .cells #[.int .i64 x197000_2, .int .i64 x197001_2] 30 (0, 0)) (bk_ BK196) hb)
               have n2_ := Aside0.mk (blk_below (g := gb200) (o := .cells #[.int .i64 (wrap64 (1000000 - t198)), .int .i64 (wrap64 (1000000 - t199))] 30 (0, 0)) (bk_ BK200) hb)
               have n3_ := Aside0.mk (below_step (bl_ HB) hb)
               have n4_ := Aside0.mk (hbox)
               have n5_ := Aside0.mk ((by rw [hg]; exact (below_size (bl_ HB)) : w.heap.size ≤ gb206))
               have n6_ := Aside0.mk ((by rw [hg]; exact (below_size (bl_ HB)) : w.heap.size ≤ gb206))
               have n7_ := Aside0.mk ((by rw [hg]; exact Nat.ne_of_lt (blk_lt (g := gb196) (o := .cells #[.int .i64 x197000_2, .int .i64 x197001_2] 30 (0, 0)) (bk_ BK196)) : gb196 ≠ gb206))
               have n8_ := Aside0.mk ((by rw [hg]; exact Nat.ne_of_gt (blk_lt (g := gb196) (o := .cells #[.int .i64 x197000_2, .int .i64 x197001_2] 30 (0, 0)) (bk_ BK196)) : gb206 ≠ gb196))
               have n9_ := Aside0.mk ((by rw [hg]; exact Nat.ne_of_lt (blk_lt (g := gb200) (o := .cells #[.int .i64 (wrap64 (1000000 - t198)), .int .i64 (wrap64 (1000000 - t199))] 30 (0, 0)) (bk_ BK200)) : gb200 ≠ gb206))
               have n10_ := Aside0.mk ((by rw [hg]; exact Nat.ne_of_gt (blk_lt (g := gb200) (o := .cells #[.int .i64 (wrap64 (1000000 - t198)), .int .i64 (wrap64 (1000000 - t199))] 30 (0, 0)) (bk_ BK200)) : gb206 ≠ gb200))
               clear HO_6
               clear BK196
               clear BK200
               clear HB
               have HO_6 := n0_
               have BK196 := n1_
               have BK200 := n2_
               have HB := n3_
               have BK206 := n4_
               have GW206 := n5_
               have GE206 := n6_
               have NB196_206 := n7_
               have NB206_196 := n8_
               have NB200_206 := n9_
               have NB206_200 := n10_
               clear n0_ n1_ n2_ n3_ n4_ n5_ n6_ n7_ n8_ n9_ n10_
               clear hb hbox hg
               refine hK.out _ _ ⟨(blk_cell BK200.out 0).trans rfl, (blk_cell BK200.out 1).trans rfl⟩ (fun hHeld => ?_)
               clear hK K
               refine norm_ (a' := ?_) ?_ ?_
               rotate_left
               ·
                show Act.put _ (some 12) _ = _
                simp only [Act.put, sa_, sb_, sc_, i64_w, i32_w]
                rfl
               refine one_ (i := 3) (N := some 56) #[true, true, true, true, false, false, false, false, true, false, false] rfl rfl (one_of HT_.out (by kernel_rfl)) (by decide) (fun K hK => ?_)
               refine goes_ Tryd.func27 (by kernel_rfl) rfl #[.int .i64 (wrap64 (1000000 + (wrap64 (100 * (rd l0 x33_2)))))] (by rfl) rfl rfl (by (try simp only [List.map_toArray, List.map_cons, List.map_nil]); first | done | rfl | (simp only [List.length_drop, List.length_take]; rfl)) ?_
               with_reducible refine (impl_exactly.calls (wrap64 (1000000 + (wrap64 (100 * (rd l0 x33_2))))) t201 t202 _ A19.out).mono ?_
               rintro e w30 ⟨rfl, hb⟩
               refine ⟨_, rfl, ?_⟩
               have n0_ := Aside0.mk (Kd.R_below (kr_ HO_6) hb)
               have n1_ := Aside0.mk (blk_below (g := gb196) (o := .cells #[.int .i64 x197000_2, .int .i64 x197001_2] 30 (0, 0)) (bk_ BK196) hb)
               have n2_ := Aside0.mk (blk_below (g := gb200) (o := .cells #[.int .i64 (wrap64 (1000000 - t198)), .int .i64 (wrap64 (1000000 - t199))] 30 (0, 0)) (bk_ BK200) hb)
               have n3_ := Aside0.mk (blk_below (g := gb206) (o := .cells #[.int .i64 0, .int .i64 0] 30 (0, 0)) (bk_ BK206) hb)
               have n4_ := Aside0.mk (below_step (bl_ HB) hb)
               clear HO_6
               clear BK196
               clear BK200
               clear BK206
               clear HB
               have HO_6 := n0_
               have BK196 := n1_
               have BK200 := n2_
               have BK206 := n3_
               have HB := n4_
               clear n0_ n1_ n2_ n3_ n4_
               (try clear hb)
               (try clear hb2)
               (try clear hk)
               (try clear hi)
               refine hK.out _ _ ⟨(blk_cell BK200.out 0).trans rfl, (blk_cell BK200.out 1).trans rfl⟩ (fun hHeld => ?_)
               clear hK K
               refine norm_ (a' := ?_) ?_ ?_
               rotate_left
               ·
                show Act.put _ (some 56) _ = _
                simp only [Act.put, sa_, sb_, sc_, i64_w, i32_w]
                rfl
               refine one_ (i := 4) (N := some 57) #[true, true, true, true, true, false, false, false, true, false, false] rfl rfl (one_of HT_.out (by kernel_rfl)) (by decide) (fun K hK => ?_)
               refine goes_ Tryd.func26 (by kernel_rfl) rfl #[.agg #[.int .i64 (wrap64 (1000000 - t198)), .int .i64 (wrap64 (1000000 - t199))], .agg #[.int .i64 t201, .int .i64 t202]] (by rfl) rfl rfl (by (try simp only [List.map_toArray, List.map_cons, List.map_nil]); first | done | rfl | (simp only [List.length_drop, List.length_take]; rfl)) ?_
               with_reducible refine (impl_Range_through.calls (wrap64 (1000000 - t198)) (wrap64 (1000000 - t199)) t201 t202 t203 t204 t205 _ ?side1 A20.out).mono ?_
               (case side1 => first | exact HTab.out | exact Tab.below HTab.out (bl_ HB))
               rintro e w31 ⟨rfl, hb⟩
               refine ⟨_, rfl, ?_⟩
               have n0_ := Aside0.mk (Kd.R_below (kr_ HO_6) hb)
               have n1_ := Aside0.mk (blk_below (g := gb196) (o := .cells #[.int .i64 x197000_2, .int .i64 x197001_2] 30 (0, 0)) (bk_ BK196) hb)
               have n2_ := Aside0.mk (blk_below (g := gb200) (o := .cells #[.int .i64 (wrap64 (1000000 - t198)), .int .i64 (wrap64 (1000000 - t199))] 30 (0, 0)) (bk_ BK200) hb)
               have n3_ := Aside0.mk (blk_below (g := gb206) (o := .cells #[.int .i64 0, .int .i64 0] 30 (0, 0)) (bk_ BK206) hb)
               have n4_ := Aside0.mk (below_step (bl_ HB) hb)
               clear HO_6
               clear BK196
               clear BK200
               clear BK206
               clear HB
               have HO_6 := n0_
               have BK196 := n1_
               have BK200 := n2_
               have BK206 := n3_
               have HB := n4_
               clear n0_ n1_ n2_ n3_ n4_
               (try clear hb)
               (try clear hb2)
               (try clear hk)
               (try clear hi)
               (try simp only [errW_none, errW_some])
               refine hK.out _ _ ⟨(blk_cell BK200.out 0).trans rfl, (blk_cell BK200.out 1).trans rfl⟩ (fun hHeld => ?_)
               clear hK K
               refine norm_ (a' := ?_) ?_ ?_
               rotate_left
               ·
                show Act.put _ (some 57) _ = _
                simp only [Act.put, sa_, sb_, sc_, i64_w, i32_w]
                rfl
               refine pure_ (i := 5) (N := some 52) (v := ?_) (a' := ?_) #[true, true, true, true, true, true, false, false, true, false, false] rfl rfl (any_of HT_.out (by kernel_rfl)) (fun _ _ _ h => h) (Or.inl ⟨by rfl, ?_⟩) ?_ ?_
               rotate_left
               ·
                intro w'
                go_simp
                with_reducible rfl
               rotate_left
               ·
                simp only [Act.put, sa_, sb_, sc_, i64_w, i32_w]
                rfl
               refine pure_ (i := 6) (N := some 58) (v := ?_) (a' := ?_) #[true, true, true, true, true, true, true, false, true, false, false] rfl rfl (any_of HT_.out (by kernel_rfl)) (fun _ _ _ h => h) (Or.inl ⟨by rfl, ?_⟩) ?_ ?_
               rotate_left
               ·
                intro w'
                go_simp
                with_reducible rfl
               rotate_left
               ·
                simp only [Act.put, sa_, sb_, sc_, i64_w, i32_w]
                rfl
               refine pure_ (i := 7) (N := some 59) (v := ?_) (a' := ?_) #[true, true, true, true, true, true, true, true, true, false, false] rfl rfl (any_of HT_.out (by kernel_rfl)) (fun _ _ _ h => h) (Or.inl ⟨by rfl, ?_⟩) ?_ ?_
               rotate_left
               ·
                intro w'
                go_simp
                with_reducible rfl
               rotate_left
               ·
                simp only [Act.put, sa_, sb_, sc_, i64_w, i32_w]
                rfl
               exact norm_ (by simp only [putAll, Act.put, sa_, sb_, sc_]) (hCont (gb206) _ ⟨hHeld, (by (with_reducible repeat (first | apply Kd.R_alloc | apply Kd.R_drewN | apply Kd.R_drew)); exact Kd.R_mono HO_6.out (fun _ hk => ⟨hk.1.1, ⟨hk.1.2, hk.2⟩⟩)), (bk_ BK196), (bk_ BK200), (bk_ BK206), GW206.out, GE206.out, NB196_206.out, NB206_196.out, NB200_206.out, NB206_200.out, (bl_ HB)⟩)
             rintro gb206 w32 ⟨hS_, h0_, h1_, h2_, h3_, h4_, h5_, h6_, h7_, h8_, h9_, h10_⟩
             have n0_ : Aside0 (Kd.R k30 30 w32 w.heap.size (fun k_ => k_ ≠ gb196 ∧ k_ ≠ gb200 ∧ k_ ≠ gb206) u6 x6_2) := ⟨h0_⟩
             have n1_ : Aside0 (w32.heap[gb196]? = some (.cells #[.int .i64 x197000_2, .int .i64 x197001_2] 30 (0, 0))) := ⟨h1_⟩
             have n2_ : Aside0 (w32.heap[gb200]? = some (.cells #[.int .i64 (wrap64 (1000000 - t198)), .int .i64 (wrap64 (1000000 - t199))] 30 (0, 0))) := ⟨h2_⟩
             have n3_ : Aside0 (w32.heap[gb206]? = some (.cells #[.int .i64 0, .int .i64 0] 30 (0, 0))) := ⟨h3_⟩
             have n4_ : Aside0 (w.heap.size ≤ gb206) := ⟨h4_⟩
             have n5_ : Aside0 (w.heap.size ≤ gb206) := ⟨h5_⟩
             have n6_ : Aside0 (gb196 ≠ gb206) := ⟨h6_⟩
             have n7_ : Aside0 (gb206 ≠ gb196) := ⟨h7_⟩
             have n8_ : Aside0 (gb200 ≠ gb206) := ⟨h8_⟩
             have n9_ : Aside0 (gb206 ≠ gb200) := ⟨h9_⟩
             have n10_ : Aside0 (Below w.heap.size w w32) := ⟨h10_⟩
             clear HO_6
             clear BK196
             clear BK200
             clear HB
             clear h0_ h1_ h2_ h3_ h4_ h5_ h6_ h7_ h8_ h9_ h10_
             have HO_6 := n0_
             have BK196 := n1_
             have BK200 := n2_
             have BK206 := n3_
             have GW206 := n4_
             have GE206 := n5_
             have NB196_206 := n6_
             have NB206_196 := n7_
             have NB200_206 := n8_
             have NB206_200 := n9_
             have HB := n10_
             clear n0_ n1_ n2_ n3_ n4_ n5_ n6_ n7_ n8_ n9_ n10_
             have hHeld : w32.cell? ⟨gb200, 0, none⟩ = some (.int .i64 (wrap64 (1000000 - t198))) ∧ w32.cell? ⟨gb200, 1, none⟩ = some (.int .i64 (wrap64 (1000000 - t199))) := hS_
             refine norm_ (a' := ?_) ?_ ?_
             rotate_left
             ·
              simp only [putAll, Act.put, sa_, sb_, sc_]
              rfl
             refine one_ (i := 9) (N := none) #[true, true, true, true, true, true, true, true, true, true, false] rfl rfl (one_of HT_.out (by kernel_rfl)) (by decide) (fun K hK => ?_)
             have hs33 : w32.cell? ⟨gb206, 0, none⟩ = some (.int .i64 0) := (blk_cell BK206.out 0).trans rfl
             have hfs33 := blk_frozen BK206.out 0
             have hns33_0 := NB196_206.out
             have hns33_1 := NB200_206.out
             have hms33_0 := NB206_196.out
             have hms33_1 := NB206_200.out
             have hs34 : w32.cell? ⟨gb206, 1, none⟩ = some (.int .i64 0) := (blk_cell BK206.out 1).trans rfl
             have hfs34 := blk_frozen BK206.out 1
             have hns34_0 := NB196_206.out
             have hns34_1 := NB200_206.out
             have hms34_0 := NB206_196.out
             have hms34_1 := NB206_200.out
             refine skip_ (w1 := ?_) (by rfl) rfl ?_ ?_
             rotate_left
             ·
              go_simp
              rfl
             refine hK.out _ _ ⟨((cell_far (p := ⟨gb206, _, none⟩) NB200_206.out _).trans (((cell_far (p := ⟨gb206, _, none⟩) NB200_206.out _).trans (hHeld.1)))), ((cell_far (p := ⟨gb206, _, none⟩) NB200_206.out _).trans (((cell_far (p := ⟨gb206, _, none⟩) NB200_206.out _).trans (hHeld.2))))⟩ (fun hHeld => ?_)
             clear hK K
             refine pure_ (i := 10) (N := some 13) (v := ?_) (a' := ?_) #[true, true, true, true, true, true, true, true, true, true, true] rfl rfl (any_of HT_.out (by kernel_rfl)) (fun _ _ _ h => h) (Or.inl ⟨by rfl, ?_⟩) ?_ ?_
             rotate_left
             ·
              intro w'
              go_simp
              with_reducible rfl
             rotate_left
             ·
              simp only [Act.put, sa_, sb_, sc_, i64_w, i32_w]
              rfl
             refine done_ (done_of HT_.out (by kernel_rfl)) ?_
             have hnb35 := NB200_196.out
             have hnc35 := NB196_200.out
             have hnb36 := NB200_206.out
             have hnc36 := NB206_200.out
             have hcz37_0 : w32.cell? ⟨gb200, 0, none⟩ = some (.int .i64 (wrap64 (1000000 - t198))) := (blk_cell BK200.out 0).trans rfl
             have hcz37_1 : w32.cell? ⟨gb200, 1, none⟩ = some (.int .i64 (wrap64 (1000000 - t199))) := (blk_cell BK200.out 1).trans rfl
             have hfz37_0 := blk_frozen BK200.out 0
             have hfz37_1 := blk_frozen BK200.out 1
             try go_wp2
             go_ret2
             exact ⟨_, by first | rfl | (simp [errW_none, errW_some] <;> rfl) | (simp [*, errW_none, errW_some] <;> rfl), by first | exact Kd.R_nil _ _ _ _ _ | exact Kd.N_nil _ _ _ _ _ | exact Kd.V_nil _ _ _ _ _ | exact Kd.Q_nil _ _ _ _ _ | exact Kd.S_nil _ _ _ _ _, by repeat (first | (with_reducible first | exact HB.out | apply below_alloc | apply pw_below_drewN | apply below_drew1 | refine below_set ?_ GE196.out | refine below_set ?_ GE200.out | refine below_set ?_ GE206.out) | exact HB.out)⟩
            ·
             rw [if_neg c21] at H
             have c21b0 : decide ((wrap64 (1000000 - t198)) ≤ 0) = false := decide_eq_false c21
             clear c21
             rcases t205 with _ | q207
             ·
              have H1 : (if t203 ≤ 0 then (some (([] : List (S30)), false)) else (if x6_2.length < 8796093022208 then (impl_CurveOf.l1 k2 (x6_2 ++ [(⟨t203, t204⟩ : S30)]) l0 (l0.length : Int) (wrap64 (x33_2 + 1)) (wrap64 (x197000_2 + t203)) (wrap64 (x197001_2 + t204))) else (none))) = some (r1, r2) := by rw [if_pos (show (none : Option Int).isNone = true by rfl)] at H; exact H
              clear H
              have H := H1
              clear H1
              try simp only [errW_none, errW_some]
              by_cases c38 : t203 ≤ 0
              ·
               rw [if_pos c38] at H
               have c38b0 : decide (t203 ≤ 0) = true := decide_eq_true c38
               clear c38
               simp only [Option.some.injEq, Prod.mk.injEq] at H
               obtain ⟨rfl, rfl⟩ := H
               have p197 : 0 ≤ (x33_2 : Int) := of_decide_eq_true (by first | (with_reducible assumption) | assumption)
               have q197 : x33_2 < (l0.length : Int) := of_decide_eq_true (by first | (with_reducible assumption) | assumption)
               obtain ⟨ad197, e197, hx197_0⟩ := Kd.at_int HR0.out x33_2 p197 q197
               cases e197
               replace hx197_0 := (HB.out.cell (World.block_lt_of_cell? w _ hx197_0)).trans hx197_0
               replace p197 := eq_true p197
               replace q197 := eq_true q197
               try go_wp2
               have n0_ := Aside0.mk (Kd.R_drew HO_6.out)
               have n1_ := Aside0.mk (blk_drew BK196.out)
               have n2_ := Aside0.mk (below_drew1 HB.out)
               clear HO_6
               clear BK196
               clear HB
               have HO_6 := n0_
               have BK196 := n1_
               have HB := n2_
               clear n0_ n1_ n2_
               refine start_ (n := 15) (S := fun w' => w'.cell? ⟨gb196, 0, none⟩ = some (.int .i64 x197000_2) ∧ w'.cell? ⟨gb196, 1, none⟩ = some (.int .i64 x197001_2)) (ds := []) #[false, false, false, false, false, false, false, false, false, false, false, false, false, false, false] (by kernel_rfl) rfl rfl ⟨(blk_cell BK196.out 0).trans rfl, (blk_cell BK196.out 1).trans rfl⟩ (fun hHeld => ?_); refine with_tabW impl_CurveOf.tab15 impl_CurveOf.bits15 (fun HT_ HW_ => ?_)
               generalize wr.drew = w39 at HO_6 BK196 HB hHeld ⊢
               refine pure_ (i := 0) (N := some 39) (v := ?_) (a' := ?_) #[true, false, false, false, false, false, false, false, false, false, false, false, false, false, false] rfl rfl (any_of HT_.out (by kernel_rfl)) (fun _ _ _ h => h) (Or.inl ⟨by rfl, ?_⟩) ?_ ?_
               rotate_left
               ·
                intro w'
                go_simp
                with_reducible rfl
               rotate_left
               ·
                simp only [Act.put, sa_, sb_, sc_, i64_w, i32_w]
                rfl
               refine pure_ (i := 1) (N := some 40) (v := ?_) (a' := ?_) #[true, true, false, false, false, false, false, false, false, false, false, false, false, false, false] rfl rfl (any_of HT_.out (by kernel_rfl)) (fun _ _ _ h => h) (Or.inl ⟨by rfl, ?_⟩) ?_ ?_
               rotate_left
               ·
                intro w'
                go_simp
                with_reducible rfl
               rotate_left
               ·
                simp only [Act.put, sa_, sb_, sc_, i64_w, i32_w]
                rfl
               refine pure_ (i := 6) (N := some 45) (v := ?_) (a' := ?_) #[true, true, false, false, false, false, true, false, false, false, false, false, false, false, false] rfl rfl (any_of HT_.out (by kernel_rfl)) (fun _ _ _ h => h) (Or.inl ⟨by rfl, ?_⟩) ?_ ?_
               rotate_left
               ·
                intro w'
                go_simp
                with_reducible rfl
               rotate_left
               ·
                simp only [Act.put, sa_, sb_, sc_, i64_w, i32_w]
                rfl
               refine pure_ (i := 7) (N := some 46) (v := ?_) (a' := ?_) #[true, true, false, false, false, false, true, true, false, false, false, false, false, false, false] rfl rfl (any_of HT_.out (by kernel_rfl)) (fun _ _ _ h => h) (Or.inl ⟨by rfl, ?_⟩) ?_ ?_
               rotate_left
               ·
                intro w'
                go_simp
                with_reducible rfl
               rotate_left
               ·
                simp only [Act.put, sa_, sb_, sc_, i64_w, i32_w]
                rfl
               refine take_ (i := 2) (N := some 41) (v := ?_) (a' := ?_) #[true, true, true, false, false, false, true, true, false, false, false, false, false, false, false] rfl rfl (take_ofW HT_.out HW_.out (by kernel_rfl)) (fun _ _ _ h => h) (Or.inl ⟨by rfl, ?_⟩) hHeld ?_ ?_
               rotate_left
               ·
                rintro w' ⟨s0, s1⟩
                go_simp
                with_reducible rfl
               rotate_left
               ·
                simp only [Act.put, sa_, sb_, sc_, i64_w, i32_w]
                rfl
               refine pure_ (i := 3) (N := some 42) (v := ?_) (a' := ?_) #[true, true, true, true, false, false, true, true, false, false, false, false, false, false, false] rfl rfl (any_of HT_.out (by kernel_rfl)) (fun _ _ _ h => h) (Or.inl ⟨by rfl, ?_⟩) ?_ ?_
               rotate_left
               ·
                intro w'
                go_simp
                with_reducible rfl
               rotate_left
               ·
                simp only [Act.put, sa_, sb_, sc_, i64_w, i32_w]
                rfl
               refine take_ (i := 8) (N := some 47) (v := ?_) (a' := ?_) #[true, true, true, true, false, false, true, true, true, false, false, false, false, false, false] rfl rfl (take_ofW HT_.out HW_.out (by kernel_rfl)) (fun _ _ _ h => h) (Or.inl ⟨by rfl, ?_⟩) hHeld ?_ ?_
               rotate_left
               ·
                rintro w' ⟨s0, s1⟩
                go_simp
                with_reducible rfl
               rotate_left
               ·
                simp only [Act.put, sa_, sb_, sc_, i64_w, i32_w]
                rfl
               refine pure_ (i := 9) (N := some 48) (v := ?_) (a' := ?_) #[true, true, true, true, false, false, true, true, true, true, false, false, false, false, false] rfl rfl (any_of HT_.out (by kernel_rfl)) (fun _ _ _ h => h) (Or.inl ⟨by rfl, ?_⟩) ?_ ?_
               rotate_left
               ·
                intro w'
                go_simp
                with_reducible rfl
               rotate_left
               ·
                simp only [Act.put, sa_, sb_, sc_, i64_w, i32_w]
                rfl
               refine join_ (σ := Nat) 1 #[true, true, true, true, true, true, true, true, true, true, true, true, true, true, false] (fun s_ => [(43, .int .i64 t198), (49, .int .i64 t199), (11, .pointer (some ⟨s_, 0, none⟩)), (44, .int .i64 (wrap64 (1000000 - t198))), (50, .int .i64 (wrap64 (1000000 - t199))), (51, .agg #[.int .i64 (wrap64 (1000000 - t198)), .int .i64 (wrap64 (1000000 - t199))])]) (fun s_ w' => (w'.cell? ⟨gb196, 0, none⟩ = some (.int .i64 x197000_2) ∧ w'.cell? ⟨gb196, 1, none⟩ = some (.int .i64 x197001_2)) ∧ (Kd.R k30 30 w' w.heap.size (fun k_ => k_ ≠ gb196 ∧ k_ ≠ s_) u6 x6_2) ∧ (w'.heap[gb196]? = some (.cells #[.int .i64 x197000_2, .int .i64 x197001_2] 30 (0, 0))) ∧ (w'.heap[s_]? = some (.cells #[.int .i64 0, .int .i64 0] 30 (0, 0))) ∧ (w.heap.size ≤ s_) ∧ (w.heap.size ≤ s_) ∧ (gb196 ≠ s_) ∧ (s_ ≠ gb196) ∧ (Below w.heap.size w w')) ?_ ?_
               rotate_left
               ·
                intro hCont
                refine two_ (i := 4) (j := 13) (Ni := some 43) (Nj := some 11) #[true, true, true, true, true, false, true, true, true, true, false, false, false, false, false] #[true, true, true, true, false, false, true, true, true, true, false, false, false, true, false] rfl rfl rfl rfl (two_of HT_.out (by kernel_rfl)) (by decide) (by decide) (fun K hK => ?_) (fun K hK => ?_)
                ·
                 skip
                 refine goes_ Tryd.func24 (by kernel_rfl) rfl #[.int .i64 (wrap64 ((wrap64 (100 * (rd l0 x33_2))) * x197001_2)), .int .i64 1000000] (by rfl) rfl rfl (by (try simp only [List.map_toArray, List.map_cons, List.map_nil]); first | done | rfl | (simp only [List.length_drop, List.length_take]; rfl)) ?_
                 with_reducible refine (impl_ceil.calls (wrap64 ((wrap64 (100 * (rd l0 x33_2))) * x197001_2)) 1000000 t198 _ A17.out).mono ?_
                 rintro e w' ⟨rfl, ⟨nd, rfl⟩⟩
                 refine ⟨_, rfl, ?_⟩
                 refine hK.out _ _ ⟨(blk_cell BK196.out 0).trans rfl, (blk_cell BK196.out 1).trans rfl⟩ (fun hHeld => ?_)
                 clear hK K
                 refine norm_ (a' := ?_) ?_ ?_
                 rotate_left
                 ·
                  show Act.put _ (some 43) _ = _
                  simp only [Act.put, sa_, sb_, sc_, i64_w, i32_w]
                  rfl
                 refine pure_ (i := 5) (N := some 44) (v := ?_) (a' := ?_) #[true, true, true, true, true, true, true, true, true, true, false, false, false, false, false] rfl rfl (any_of HT_.out (by kernel_rfl)) (fun _ _ _ h => h) (Or.inl ⟨by rfl, ?_⟩) ?_ ?_
                 rotate_left
                 ·
                  intro w'
                  go_simp
                  with_reducible rfl
                 rotate_left
                 ·
                  simp only [Act.put, sa_, sb_, sc_, i64_w, i32_w]
                  rfl
                 refine two_ (i := 10) (j := 13) (Ni := some 49) (Nj := some 11) #[true, true, true, true, true, true, true, true, true, true, true, false, false, false, false] #[true, true, true, true, true, true, true, true, true, true, false, false, false, true, false] rfl rfl rfl rfl (two_of HT_.out (by kernel_rfl)) (by decide) (by decide) (fun K hK => ?_) (fun K hK => ?_)
                 ·
                  skip
                  refine goes_ Tryd.func25 (by kernel_rfl) rfl #[.int .i64 (wrap64 ((wrap64 (100 * (rd l0 x33_2))) * x197000_2)), .int .i64 1000000] (by rfl) rfl rfl (by (try simp only [List.map_toArray, List.map_cons, List.map_nil]); first | done | rfl | (simp only [List.length_drop, List.length_take]; rfl)) ?_
                  with_reducible refine (impl_floor.calls (wrap64 ((wrap64 (100 * (rd l0 x33_2))) * x197000_2)) 1000000 t199 _ A18.out).mono ?_
                  rintro e w' ⟨rfl, ⟨nd, rfl⟩⟩
                  refine ⟨_, rfl, ?_⟩
                  refine hK.out _ _ ⟨(blk_cell BK196.out 0).trans rfl, (blk_cell BK196.out 1).trans rfl⟩ (fun hHeld => ?_)
                  clear hK K
                  refine norm_ (a' := ?_) ?_ ?_
                  rotate_left
                  ·
                   show Act.put _ (some 49) _ = _
                   simp only [Act.put, sa_, sb_, sc_, i64_w, i32_w]
                   rfl
                  refine pure_ (i := 11) (N := some 50) (v := ?_) (a' := ?_) #[true, true, true, true, true, true, true, true, true, true, true, true, false, false, false] rfl rfl (any_of HT_.out (by kernel_rfl)) (fun _ _ _ h => h) (Or.inl ⟨by rfl, ?_⟩) ?_ ?_
                  rotate_left
                  ·
                   intro w'
                   go_simp
                   with_reducible rfl
                  rotate_left
                  ·
                   simp only [Act.put, sa_, sb_, sc_, i64_w, i32_w]
                   rfl
                  refine pure_ (i := 12) (N := some 51) (v := ?_) (a' := ?_) #[true, true, true, true, true, true, true, true, true, true, true, true, true, false, false] rfl rfl (any_of HT_.out (by kernel_rfl)) (fun _ _ _ h => h) (Or.inl ⟨by rfl, ?_⟩) ?_ ?_
                  rotate_left
                  ·
                   intro w'
                   go_simp
                   with_reducible rfl
                  rotate_left
                  ·
                   simp only [Act.put, sa_, sb_, sc_, i64_w, i32_w]
                   rfl
                  refine one_ (i := 13) (N := some 11) #[true, true, true, true, true, true, true, true, true, true, true, true, true, true, false] rfl rfl (one_of HT_.out (by kernel_rfl)) (by decide) (fun K hK => ?_)
                  refine box_step ?hg (N := 11) ?hd (cs := #[.int .i64 0, .int .i64 0]) (t := 30) ?hr ?_; (case hd => rfl); (case hg => rfl); (case hr => first | (go_simp; done) | (go_simp; rfl))
                  intro gb200 hg w40 hbox hb
                  have n0_ := Aside0.mk (Kd.R_below (Kd.R_elderB (kr_ HO_6) gb200 (Nat.le_of_eq hg.symm)) hb)
                  have n1_ := Aside0.mk (blk_below (g := gb196) (o := .cells #[.int .i64 x197000_2, .int .i64 x197001_2] 30 (0, 0)) (bk_ BK196) hb)
                  have n2_ := Aside0.mk (below_step (bl_ HB) hb)
                  have n3_ := Aside0.mk (hbox)
                  have n4_ := Aside0.mk ((by rw [hg]; exact (below_size (bl_ HB)) : w.heap.size ≤ gb200))
                  have n5_ := Aside0.mk ((by rw [hg]; exact (below_size (bl_ HB)) : w.heap.size ≤ gb200))
                  have n6_ := Aside0.mk ((by rw [hg]; exact Nat.ne_of_lt (blk_lt (g := gb196) (o := .cells #[.int .i64 x197000_2, .int .i64 x197001_2] 30 (0, 0)) (bk_ BK196)) : gb196 ≠ gb200))
                  have n7_ := Aside0.mk ((by rw [hg]; exact Nat.ne_of_gt (blk_lt (g := gb196) (o := .cells #[.int .i64 x197000_2, .int .i64 x197001_2] 30 (0, 0)) (bk_ BK196)) : gb200 ≠ gb196))
                  clear HO_6
                  clear BK196
                  clear HB
                  have HO_6 := n0_
                  have BK196 := n1_
                  have HB := n2_
                  have BK200 := n3_
                  have GW200 := n4_
                  have GE200 := n5_
                  have NB196_200 := n6_
                  have NB200_196 := n7_
                  clear n0_ n1_ n2_ n3_ n4_ n5_ n6_ n7_
                  clear hb hbox hg
                  refine hK.out _ _ ⟨(blk_cell BK196.out 0).trans rfl, (blk_cell BK196.out 1).trans rfl⟩ (fun hHeld => ?_)
                  clear hK K
                  refine norm_ (a' := ?_) ?_ ?_
                  rotate_left
                  ·
                   show Act.put _ (some 11) _ = _
                   simp only [Act.put, sa_, sb_, sc_, i64_w, i32_w]
                   rfl
                  exact norm_ (by simp only [putAll, Act.put, sa_, sb_, sc_]) (hCont (gb200) _ ⟨hHeld, (kr_ HO_6), (bk_ BK196), (bk_ BK200), GW200.out, GE200.out, NB196_200.out, NB200_196.out, (bl_ HB)⟩)
                 ·
                  skip
                  refine box_step ?hg (N := 11) ?hd (cs := #[.int .i64 0, .int .i64 0]) (t := 30) ?hr ?_; (case hd => rfl); (case hg => rfl); (case hr => first | (go_simp; done) | (go_simp; rfl))
                  intro gb200 hg w40 hbox hb
                  have n0_ := Aside0.mk (Kd.R_below (Kd.R_elderB (kr_ HO_6) gb200 (Nat.le_of_eq hg.symm)) hb)
                  have n1_ := Aside0.mk (blk_below (g := gb196) (o := .cells #[.int .i64 x197000_2, .int .i64 x197001_2] 30 (0, 0)) (bk_ BK196) hb)
                  have n2_ := Aside0.mk (below_step (bl_ HB) hb)
                  have n3_ := Aside0.mk (hbox)
                  have n4_ := Aside0.mk ((by rw [hg]; exact (below_size (bl_ HB)) : w.heap.size ≤ gb200))
                  have n5_ := Aside0.mk ((by rw [hg]; exact (below_size (bl_ HB)) : w.heap.size ≤ gb200))
                  have n6_ := Aside0.mk ((by rw [hg]; exact Nat.ne_of_lt (blk_lt (g := gb196) (o := .cells #[.int .i64 x197000_2, .int .i64 x197001_2] 30 (0, 0)) (bk_ BK196)) : gb196 ≠ gb200))
                  have n7_ := Aside0.mk ((by rw [hg]; exact Nat.ne_of_gt (blk_lt (g := gb196) (o := .cells #[.int .i64 x197000_2, .int .i64 x197001_2] 30 (0, 0)) (bk_ BK196)) : gb200 ≠ gb196))
                  clear HO_6
                  clear BK196
                  clear HB
                  have HO_6 := n0_
                  have BK196 := n1_
                  have HB := n2_
                  have BK200 := n3_
                  have GW200 := n4_
                  have GE200 := n5_
                  have NB196_200 := n6_
                  have NB200_196 := n7_
                  clear n0_ n1_ n2_ n3_ n4_ n5_ n6_ n7_
                  clear hb hbox hg
                  refine hK.out _ _ ⟨(blk_cell BK196.out 0).trans rfl, (blk_cell BK196.out 1).trans rfl⟩ (fun hHeld => ?_)
                  clear hK K
                  refine norm_ (a' := ?_) ?_ ?_
                  rotate_left
                  ·
                   show Act.put _ (some 11) _ = _
                   simp only [Act.put, sa_, sb_, sc_, i64_w, i32_w]
                   rfl
                  refine one_ (i := 10) (N := some 49) #[true, true, true, true, true, true, true, true, true, true, true, false, false, true, false] rfl rfl (one_of HT_.out (by kernel_rfl)) (by decide) (fun K hK => ?_)
                  refine goes_ Tryd.func25 (by kernel_rfl) rfl #[.int .i64 (wrap64 ((wrap64 (100 * (rd l0 x33_2))) * x197000_2)), .int .i64 1000000] (by rfl) rfl rfl (by (try simp only [List.map_toArray, List.map_cons, List.map_nil]); first | done | rfl | (simp only [List.length_drop, List.length_take]; rfl)) ?_
                  with_reducible refine (impl_floor.calls (wrap64 ((wrap64 (100 * (rd l0 x33_2))) * x197000_2)) 1000000 t199 _ A18.out).mono ?_
                  rintro e w' ⟨rfl, ⟨nd, rfl⟩⟩
                  refine ⟨_, rfl, ?_⟩
                  refine hK.out _ _ ⟨(blk_cell BK196.out 0).trans rfl, (blk_cell BK196.out 1).trans rfl⟩ (fun hHeld => ?_)
                  clear hK K
                  refine norm_ (a' := ?_) ?_ ?_
                  rotate_left
                  ·
                   show Act.put _ (some 49) _ = _
                   simp only [Act.put, sa_, sb_, sc_, i64_w, i32_w]
                   rfl
                  refine pure_ (i := 11) (N := some 50) (v := ?_) (a' := ?_) #[true, true, true, true, true, true, true, true, true, true, true, true, false, true, false] rfl rfl (any_of HT_.out (by kernel_rfl)) (fun _ _ _ h => h) (Or.inl ⟨by rfl, ?_⟩) ?_ ?_
                  rotate_left
                  ·
                   intro w'
                   go_simp
                   with_reducible rfl
                  rotate_left
                  ·
                   simp only [Act.put, sa_, sb_, sc_, i64_w, i32_w]
                   rfl
                  refine pure_ (i := 12) (N := some 51) (v := ?_) (a' := ?_) #[true, true, true, true, true, true, true, true, true, true, true, true, true, true, false] rfl rfl (any_of HT_.out (by kernel_rfl)) (fun _ _ _ h => h) (Or.inl ⟨by rfl, ?_⟩) ?_ ?_
                  rotate_left
                  ·
                   intro w'
                   go_simp
                   with_reducible rfl
                  rotate_left
                  ·
                   simp only [Act.put, sa_, sb_, sc_, i64_w, i32_w]
                   rfl
                  exact norm_ (by simp only [putAll, Act.put, sa_, sb_, sc_]) (hCont (gb200) _ ⟨hHeld, (kr_ HO_6), (bk_ BK196), (bk_ BK200), GW200.out, GE200.out, NB196_200.out, NB200_196.out, (bl_ HB)⟩)
                ·
                 skip
                 refine box_step ?hg (N := 11) ?hd (cs := #[.int .i64 0, .int .i64 0]) (t := 30) ?hr ?_; (case hd => rfl); (case hg => rfl); (case hr => first | (go_simp; done) | (go_simp; rfl))
                 intro gb200 hg w40 hbox hb
                 have n0_ := Aside0.mk (Kd.R_below (Kd.R_elderB (kr_ HO_6) gb200 (Nat.le_of_eq hg.symm)) hb)
                 have n1_ := Aside0.mk (blk_below (g := gb196) (o := .cells #[.int .i64 x197000_2, .int .i64 x197001_2] 30 (0, 0)) (bk_ BK196) hb)
                 have n2_ := Aside0.mk (below_step (bl_ HB) hb)
                 have n3_ := Aside0.mk (hbox)
                 have n4_ := Aside0.mk ((by rw [hg]; exact (below_size (bl_ HB)) : w.heap.size ≤ gb200))
                 have n5_ := Aside0.mk ((by rw [hg]; exact (below_size (bl_ HB)) : w.heap.size ≤ gb200))
                 have n6_ := Aside0.mk ((by rw [hg]; exact Nat.ne_of_lt (blk_lt (g := gb196) (o := .cells #[.int .i64 x197000_2, .int .i64 x197001_2] 30 (0, 0)) (bk_ BK196)) : gb196 ≠ gb200))
                 have n7_ := Aside0.mk ((by rw [hg]; exact Nat.ne_of_gt (blk_lt (g := gb196) (o := .cells #[.int .i64 x197000_2, .int .i64 x197001_2] 30 (0, 0)) (bk_ BK196)) : gb200 ≠ gb196))
                 clear HO_6
                 clear BK196
                 clear HB
                 have HO_6 := n0_
                 have BK196 := n1_
                 have HB := n2_
                 have BK200 := n3_
                 have GW200 := n4_
                 have GE200 := n5_
                 have NB196_200 := n6_
                 have NB200_196 := n7_
                 clear n0_ n1_ n2_ n3_ n4_ n5_ n6_ n7_
                 clear hb hbox hg
                 refine hK.out _ _ ⟨(blk_cell BK196.out 0).trans rfl, (blk_cell BK196.out 1).trans rfl⟩ (fun hHeld => ?_)
                 clear hK K
                 refine norm_ (a' := ?_) ?_ ?_
                 rotate_left
                 ·
                  show Act.put _ (some 11) _ = _
                  simp only [Act.put, sa_, sb_, sc_, i64_w, i32_w]
                  rfl
                 refine one_ (i := 4) (N := some 43) #[true, true, true, true, true, false, true, true, true, true, false, false, false, true, false] rfl rfl (one_of HT_.out (by kernel_rfl)) (by decide) (fun K hK => ?_)
                 refine goes_ Tryd.func24 (by kernel_rfl) rfl #[.int .i64 (wrap64 ((wrap64 (100 * (rd l0 x33_2))) * x197001_2)), .int .i64 1000000] (by rfl) rfl rfl (by (try simp only [List.map_toArray, List.map_cons, List.map_nil]); first | done | rfl | (simp only [List.length_drop, List.length_take]; rfl)) ?_
                 with_reducible refine (impl_ceil.calls (wrap64 ((wrap64 (100 * (rd l0 x33_2))) * x197001_2)) 1000000 t198 _ A17.out).mono ?_
                 rintro e w' ⟨rfl, ⟨nd, rfl⟩⟩
                 refine ⟨_, rfl, ?_⟩
                 refine hK.out _ _ ⟨(blk_cell BK196.out 0).trans rfl, (blk_cell BK196.out 1).trans rfl⟩ (fun hHeld => ?_)
                 clear hK K
                 refine norm_ (a' := ?_) ?_ ?_
                 rotate_left
                 ·
                  show Act.put _ (some 43) _ = _
                  simp only [Act.put, sa_, sb_, sc_, i64_w, i32_w]
                  rfl
                 refine pure_ (i := 5) (N := some 44) (v := ?_) (a' := ?_) #[true, true, true, true, true, true, true, true, true, true, false, false, false, true, false] rfl rfl (any_of HT_.out (by kernel_rfl)) (fun _ _ _ h => h) (Or.inl ⟨by rfl, ?_⟩) ?_ ?_
                 rotate_left
                 ·
                  intro w'
                  go_simp
                  with_reducible rfl
                 rotate_left
                 ·
                  simp only [Act.put, sa_, sb_, sc_, i64_w, i32_w]
                  rfl
                 refine one_ (i := 10) (N := some 49) #[true, true, true, true, true, true, true, true, true, true, true, false, false, true, false] rfl rfl (one_of HT_.out (by kernel_rfl)) (by decide) (fun K hK => ?_)
                 refine goes_ Tryd.func25 (by kernel_rfl) rfl #[.int .i64 (wrap64 ((wrap64 (100 * (rd l0 x33_2))) * x197000_2)), .int .i64 1000000] (by rfl) rfl rfl (by (try simp only [List.map_toArray, List.map_cons, List.map_nil]); first | done | rfl | (simp only [List.length_drop, List.length_take]; rfl)) ?_
                 with_reducible refine (impl_floor.calls (wrap64 ((wrap64 (100 * (rd l0 x33_2))) * x197000_2)) 1000000 t199 _ A18.out).mono ?_
                 rintro e w' ⟨rfl, ⟨nd, rfl⟩⟩
                 refine ⟨_, rfl, ?_⟩
                 refine hK.out _ _ ⟨(blk_cell BK196.out 0).trans rfl, (blk_cell BK196.out 1).trans rfl⟩ (fun hHeld => ?_)
                 clear hK K
                 refine norm_ (a' := ?_) ?_ ?_
                 rotate_left
                 ·
                  show Act.put _ (some 49) _ = _
                  simp only [Act.put, sa_, sb_, sc_, i64_w, i32_w]
                  rfl
                 refine pure_ (i := 11) (N := some 50) (v := ?_) (a' := ?_) #[true, true, true, true, true, true, true, true, true, true, true, true, false, true, false] rfl rfl (any_of HT_.out (by kernel_rfl)) (fun _ _ _ h => h) (Or.inl ⟨by rfl, ?_⟩) ?_ ?_
                 rotate_left
                 ·
                  intro w'
                  go_simp
                  with_reducible rfl
                 rotate_left
                 ·
                  simp only [Act.put, sa_, sb_, sc_, i64_w, i32_w]
                  rfl
                 refine pure_ (i := 12) (N := some 51) (v := ?_) (a' := ?_) #[true, true, true, true, true, true, true, true, true, true, true, true, true, true, false] rfl rfl (any_of HT_.out (by kernel_rfl)) (fun _ _ _ h => h) (Or.inl ⟨by rfl, ?_⟩) ?_ ?_
                 rotate_left
                 ·
                  intro w'
                  go_simp
                  with_reducible rfl
                 rotate_left
                 ·
                  simp only [Act.put, sa_, sb_, sc_, i64_w, i32_w]
                  rfl
                 exact norm_ (by simp only [putAll, Act.put, sa_, sb_, sc_]) (hCont (gb200) _ ⟨hHeld, (kr_ HO_6), (bk_ BK196), (bk_ BK200), GW200.out, GE200.out, NB196_200.out, NB200_196.out, (bl_ HB)⟩)
               rintro gb200 w41 ⟨hS_, h0_, h1_, h2_, h3_, h4_, h5_, h6_, h7_⟩
               have n0_ : Aside0 (Kd.R k30 30 w41 w.heap.size (fun k_ => k_ ≠ gb196 ∧ k_ ≠ gb200) u6 x6_2) := ⟨h0_⟩
               have n1_ : Aside0 (w41.heap[gb196]? = some (.cells #[.int .i64 x197000_2, .int .i64 x197001_2] 30 (0, 0))) := ⟨h1_⟩
               have n2_ : Aside0 (w41.heap[gb200]? = some (.cells #[.int .i64 0, .int .i64 0] 30 (0, 0))) := ⟨h2_⟩
               have n3_ : Aside0 (w.heap.size ≤ gb200) := ⟨h3_⟩
               have n4_ : Aside0 (w.heap.size ≤ gb200) := ⟨h4_⟩
               have n5_ : Aside0 (gb196 ≠ gb200) := ⟨h5_⟩
               have n6_ : Aside0 (gb200 ≠ gb196) := ⟨h6_⟩
               have n7_ : Aside0 (Below w.heap.size w w41) := ⟨h7_⟩
               clear HO_6
               clear BK196
               clear HB
               clear h0_ h1_ h2_ h3_ h4_ h5_ h6_ h7_
               have HO_6 := n0_
               have BK196 := n1_
               have BK200 := n2_
               have GW200 := n3_
               have GE200 := n4_
               have NB196_200 := n5_
               have NB200_196 := n6_
               have HB := n7_
               clear n0_ n1_ n2_ n3_ n4_ n5_ n6_ n7_
               have hHeld : w41.cell? ⟨gb196, 0, none⟩ = some (.int .i64 x197000_2) ∧ w41.cell? ⟨gb196, 1, none⟩ = some (.int .i64 x197001_2) := hS_
               refine norm_ (a' := ?_) ?_ ?_
               rotate_left
               ·
                simp only [putAll, Act.put, sa_, sb_, sc_]
                rfl
               refine one_ (i := 14) (N := none) #[true, true, true, true, true, true, true, true, true, true, true, true, true, true, true] rfl rfl (one_of HT_.out (by kernel_rfl)) (by decide) (fun K hK => ?_)
               have hs42 : w41.cell? ⟨gb200, 0, none⟩ = some (.int .i64 0) := (blk_cell BK200.out 0).trans rfl
               have hfs42 := blk_frozen BK200.out 0
               have hns42_0 := NB196_200.out
               have hms42_0 := NB200_196.out
               have hs43 : w41.cell? ⟨gb200, 1, none⟩ = some (.int .i64 0) := (blk_cell BK200.out 1).trans rfl
               have hfs43 := blk_frozen BK200.out 1
               have hns43_0 := NB196_200.out
               have hms43_0 := NB200_196.out
               refine skip_ (w1 := ?_) (by rfl) rfl ?_ ?_
               rotate_left
               ·
                go_simp
                rfl
               refine hK.out _ _ ⟨((cell_far (p := ⟨gb200, _, none⟩) NB196_200.out _).trans (((cell_far (p := ⟨gb200, _, none⟩) NB196_200.out _).trans (hHeld.1)))), ((cell_far (p := ⟨gb200, _, none⟩) NB196_200.out _).trans (((cell_far (p := ⟨gb200, _, none⟩) NB196_200.out _).trans (hHeld.2))))⟩ (fun hHeld => ?_)
               clear hK K
               refine done_ (done_of HT_.out (by kernel_rfl)) ?_
               try go_wp2
               have n0_ : Aside0 (Kd.R k30 30 ((w41.setCell ⟨gb200, 0, none⟩ (.int .i64 (wrap64 (1000000 - t198)))).setCell ⟨gb200, 1, none⟩ (.int .i64 (wrap64 (1000000 - t199)))) w.heap.size (fun k_ => k_ ≠ gb196 ∧ k_ ≠ gb200) u6 x6_2) := ⟨by (with_reducible repeat (first | apply Kd.R_alloc | apply Kd.R_drewN | apply Kd.R_drew)); exact Kd.R_mono (Kd.R_far (p := ⟨gb200, 1, none⟩) (Kd.R_far (p := ⟨gb200, 0, none⟩) (Kd.R_mono HO_6.out (fun k_ hk => (⟨hk, hk.2⟩ : _ ∧ k_ ≠ gb200))) (fun _ hk => hk.2) (.int .i64 (wrap64 (1000000 - t198)))) (fun _ hk => hk.2) (.int .i64 (wrap64 (1000000 - t199)))) (fun _ hk => ⟨hk.1.1, hk.1.2⟩)⟩
               have n1_ : Aside0 (((w41.setCell ⟨gb200, 0, none⟩ (.int .i64 (wrap64 (1000000 - t198)))).setCell ⟨gb200, 1, none⟩ (.int .i64 (wrap64 (1000000 - t199)))).heap[gb196]? = some (.cells #[.int .i64 x197000_2, .int .i64 x197001_2] 30 (0, 0))) := ⟨by (with_reducible repeat (first | refine blk_drewN ?_ _ | refine blk_drew ?_ | refine blk_alloc ?_ _)); refine blk_far ?_ NB196_200.out _; (with_reducible repeat (first | refine blk_drewN ?_ _ | refine blk_drew ?_ | refine blk_alloc ?_ _)); refine blk_far ?_ NB196_200.out _; (with_reducible repeat (first | refine blk_drewN ?_ _ | refine blk_drew ?_ | refine blk_alloc ?_ _)); exact BK196.out⟩
               have n2_ : Aside0 (((w41.setCell ⟨gb200, 0, none⟩ (.int .i64 (wrap64 (1000000 - t198)))).setCell ⟨gb200, 1, none⟩ (.int .i64 (wrap64 (1000000 - t199)))).heap[gb200]? = some (.cells #[.int .i64 (wrap64 (1000000 - t198)), .int .i64 (wrap64 (1000000 - t199))] 30 (0, 0))) := ⟨by (with_reducible repeat (first | refine blk_drewN ?_ _ | refine blk_drew ?_ | refine blk_alloc ?_ _)); refine blk_put (cs := #[.int .i64 (wrap64 (1000000 - t198)), .int .i64 0]) ?_ 1 _ rfl; (with_reducible repeat (first | refine blk_drewN ?_ _ | refine blk_drew ?_ | refine blk_alloc ?_ _)); refine blk_put (cs := #[.int .i64 0, .int .i64 0]) ?_ 0 _ rfl; (with_reducible repeat (first | refine blk_drewN ?_ _ | refine blk_drew ?_ | refine blk_alloc ?_ _)); exact BK200.out⟩
               have n3_ : Aside0 (Below w.heap.size w ((w41.setCell ⟨gb200, 0, none⟩ (.int .i64 (wrap64 (1000000 - t198)))).setCell ⟨gb200, 1, none⟩ (.int .i64 (wrap64 (1000000 - t199))))) := ⟨by repeat (first | (with_reducible first | exact HB.out | apply below_alloc | apply pw_below_drewN | apply below_drew1 | refine below_set ?_ GE196.out | refine below_set ?_ GE200.out) | exact HB.out)⟩
               (try clear HO_6)
               (try clear BK196)
               (try clear BK200)
               (try clear HB)
               generalize ((w41.setCell ⟨gb200, 0, none⟩ (.int .i64 (wrap64 (1000000 - t198)))).setCell ⟨gb200, 1, none⟩ (.int .i64 (wrap64 (1000000 - t199)))) = w44 at n0_ n1_ n2_ n3_ ⊢
               have HO_6 := n0_
               have BK196 := n1_
               have BK200 := n2_
               have HB := n3_
               clear n0_ n1_ n2_ n3_
               have n0_ := Aside0.mk (Kd.R_drew HO_6.out)
               have n1_ := Aside0.mk (blk_drew BK196.out)
               have n2_ := Aside0.mk (blk_drew BK200.out)
               have n3_ := Aside0.mk (below_drew1 HB.out)
               clear HO_6
               clear BK196
               clear BK200
               clear HB
               have HO_6 := n0_
               have BK196 := n1_
               have BK200 := n2_
               have HB := n3_
               clear n0_ n1_ n2_ n3_
               refine start_ (n := 11) (S := fun w' => w'.cell? ⟨gb200, 0, none⟩ = some (.int .i64 (wrap64 (1000000 - t198))) ∧ w'.cell? ⟨gb200, 1, none⟩ = some (.int .i64 (wrap64 (1000000 - t199)))) (ds := []) #[false, false, false, false, false, false, false, false, false, false, false] (by kernel_rfl) rfl rfl ⟨(blk_cell BK200.out 0).trans rfl, (blk_cell BK200.out 1).trans rfl⟩ (fun hHeld => ?_); refine with_tabW impl_CurveOf.tab16 impl_CurveOf.bits16 (fun HT_ HW_ => ?_)
               generalize w44.drew = w45 at HO_6 BK196 BK200 HB hHeld ⊢
               refine pure_ (i := 1) (N := some 54) (v := ?_) (a' := ?_) #[false, true, false, false, false, false, false, false, false, false, false] rfl rfl (any_of HT_.out (by kernel_rfl)) (fun _ _ _ h => h) (Or.inl ⟨by rfl, ?_⟩) ?_ ?_
               rotate_left
               ·
                intro w'
                go_simp
                with_reducible rfl
               rotate_left
               ·
                simp only [Act.put, sa_, sb_, sc_, i64_w, i32_w]
                rfl
               refine pure_ (i := 2) (N := some 55) (v := ?_) (a' := ?_) #[false, true, true, false, false, false, false, false, false, false, false] rfl rfl (any_of HT_.out (by kernel_rfl)) (fun _ _ _ h => h) (Or.inl ⟨by rfl, ?_⟩) ?_ ?_
               rotate_left
               ·
                intro w'
                go_simp
                with_reducible rfl
               rotate_left
               ·
                simp only [Act.put, sa_, sb_, sc_, i64_w, i32_w]
                rfl
               refine take_ (i := 0) (N := some 53) (v := ?_) (a' := ?_) #[true, true, true, false, false, false, false, false, false, false, false] rfl rfl (take_ofW HT_.out HW_.out (by kernel_rfl)) (fun _ _ _ h => h) (Or.inl ⟨by rfl, ?_⟩) hHeld ?_ ?_
               rotate_left
               ·
                rintro w' ⟨s0, s1⟩
                go_simp
                with_reducible rfl
               rotate_left
               ·
                simp only [Act.put, sa_, sb_, sc_, i64_w, i32_w]
                rfl
               refine join_ (σ := Nat) 2 #[true, true, true, true, true, true, true, true, true, false, false] (fun s_ => [(56, .agg #[.int .i64 t201, .int .i64 t202]), (57, .tuple #[.agg #[.int .i64 t203, .int .i64 t204], .nilIface]), (12, .pointer (some ⟨s_, 0, none⟩)), (52, .tuple #[.agg #[.int .i64 t203, .int .i64 t204], .nilIface]), (58, .agg #[.int .i64 t203, .int .i64 t204]), (59, .nilIface)]) (fun s_ w' => (w'.cell? ⟨gb200, 0, none⟩ = some (.int .i64 (wrap64 (1000000 - t198))) ∧ w'.cell? ⟨gb200, 1, none⟩ = some (.int .i64 (wrap64 (1000000 - t199)))) ∧ (Kd.R k30 30 w' w.heap.size (fun k_ => k_ ≠ gb196 ∧ k_ ≠ gb200 ∧ k_ ≠ s_) u6 x6_2) ∧ (w'.heap[gb196]? = some (.cells #[.int .i64 x197000_2, .int .i64 x197001_2] 30 (0, 0))) ∧ (w'.heap[gb200]? = some (.cells #[.int .i64 (wrap64 (1000000 - t198)), .int .i64 (wrap64 (1000000 - t199))] 30 (0, 0))) ∧ (w'.heap[s_]? = some (.cells #[.int .i64 0, .int .i64 0] 30 (0, 0))) ∧ (w.heap.size ≤ s_) ∧ (w.heap.size ≤ s_) ∧ (gb196 ≠ s_) ∧ (s_ ≠ gb196) ∧ (gb200 ≠ s_) ∧ (s_ ≠ gb200) ∧ (Below w.heap.size w w')) ?_ ?_
               rotate_left
               ·
                intro hCont
                refine two_ (i := 3) (j := 8) (Ni := some 56) (Nj := some 12) #[true, true, true, true, false, false, false, false, false, false, false] #[true, true, true, false, false, false, false, false, true, false, false] rfl rfl rfl rfl (two_of HT_.out (by kernel_rfl)) (by decide) (by decide) (fun K hK => ?_) (fun K hK => ?_)
                ·
                 skip
                 refine goes_ Tryd.func27 (by kernel_rfl) rfl #[.int .i64 (wrap64 (1000000 + (wrap64 (100 * (rd l0 x33_2)))))] (by rfl) rfl rfl (by (try simp only [List.map_toArray, List.map_cons, List.map_nil]); first | done | rfl | (simp only [List.length_drop, List.length_take]; rfl)) ?_
                 with_reducible refine (impl_exactly.calls (wrap64 (1000000 + (wrap64 (100 * (rd l0 x33_2))))) t201 t202 _ A19.out).mono ?_
                 rintro e w46 ⟨rfl, hb⟩
                 refine ⟨_, rfl, ?_⟩
                 have n0_ := Aside0.mk (Kd.R_below (kr_ HO_6) hb)
                 have n1_ := Aside0.mk (blk_below (g := gb196) (o := .cells #[.int .i64 x197000_2, .int .i64 x197001_2] 30 (0, 0)) (bk_ BK196) hb)
                 have n2_ := Aside0.mk (blk_below (g := gb200) (o := .cells #[.int .i64 (wrap64 (1000000 - t198)), .int .i64 (wrap64 (1000000 - t199))] 30 (0, 0)) (bk_ BK200) hb)
                 have n3_ := Aside0.mk (below_step (bl_ HB) hb)
                 clear HO_6
                 clear BK196
                 clear BK200
                 clear HB
                 have HO_6 := n0_
                 have BK196 := n1_
                 have BK200 := n2_
                 have HB := n3_
                 clear n0_ n1_ n2_ n3_
                 (try clear hb)
                 (try clear hb2)
                 (try clear hk)
                 (try clear hi)
                 refine hK.out _ _ ⟨(blk_cell BK200.out 0).trans rfl, (blk_cell BK200.out 1).trans rfl⟩ (fun hHeld => ?_)
                 clear hK K
                 refine norm_ (a' := ?_) ?_ ?_
                 rotate_left
                 ·
                  show Act.put _ (some 56) _ = _
                  simp only [Act.put, sa_, sb_, sc_, i64_w, i32_w]
                  rfl
                 refine two_ (i := 4) (j := 8) (Ni := some 57) (Nj := some 12) #[true, true, true, true, true, false, false, false, false, false, false] #[true, true, true, true, false, false, false, false, true, false, false] rfl rfl rfl rfl (two_of HT_.out (by kernel_rfl)) (by decide) (by decide) (fun K hK => ?_) (fun K hK => ?_)
                 ·
                  skip
                  refine goes_ Tryd.func26 (by kernel_rfl) rfl #[.agg #[.int .i64 (wrap64 (1000000 - t198)), .int .i64 (wrap64 (1000000 - t199))], .agg #[.int .i64 t201, .int .i64 t202]] (by rfl) rfl rfl (by (try simp only [List.map_toArray, List.map_cons, List.map_nil]); first | done | rfl | (simp only [List.length_drop, List.length_take]; rfl)) ?_
                  with_reducible refine (impl_Range_through.calls (wrap64 (1000000 - t198)) (wrap64 (1000000 - t199)) t201 t202 t203 t204 none _ ?side1 A20.out).mono ?_
                  (case side1 => first | exact HTab.out | exact Tab.below HTab.out (bl_ HB))
                  rintro e w47 ⟨rfl, hb⟩
                  refine ⟨_, rfl, ?_⟩
                  have n0_ := Aside0.mk (Kd.R_below (kr_ HO_6) hb)
                  have n1_ := Aside0.mk (blk_below (g := gb196) (o := .cells #[.int .i64 x197000_2, .int .i64 x197001_2] 30 (0, 0)) (bk_ BK196) hb)
                  have n2_ := Aside0.mk (blk_below (g := gb200) (o := .cells #[.int .i64 (wrap64 (1000000 - t198)), .int .i64 (wrap64 (1000000 - t199))] 30 (0, 0)) (bk_ BK200) hb)
                  have n3_ := Aside0.mk (below_step (bl_ HB) hb)
                  clear HO_6
                  clear BK196
                  clear BK200
                  clear HB
                  have HO_6 := n0_
                  have BK196 := n1_
                  have BK200 := n2_
                  have HB := n3_
                  clear n0_ n1_ n2_ n3_
                  (try clear hb)
                  (try clear hb2)
                  (try clear hk)
                  (try clear hi)
                  (try simp only [errW_none, errW_some])
                  refine hK.out _ _ ⟨(blk_cell BK200.out 0).trans rfl, (blk_cell BK200.out 1).trans rfl⟩ (fun hHeld => ?_)
                  clear hK K
                  refine norm_ (a' := ?_) ?_ ?_
                  rotate_left
                  ·
                   show Act.put _ (some 57) _ = _
                   simp only [Act.put, sa_, sb_, sc_, i64_w, i32_w]
                   rfl
                  refine pure_ (i := 5) (N := some 52) (v := ?_) (a' := ?_) #[true, true, true, true, true, true, false, false, false, false, false] rfl rfl (any_of HT_.out (by kernel_rfl)) (fun _ _ _ h => h) (Or.inl ⟨by rfl, ?_⟩) ?_ ?_
                  rotate_left
                  ·
                   intro w'
                   go_simp
                   with_reducible rfl
                  rotate_left
                  ·
                   simp only [Act.put, sa_, sb_, sc_, i64_w, i32_w]
                   rfl
                  refine pure_ (i := 6) (N := some 58) (v := ?_) (a' := ?_) #[true, true, true, true, true, true, true, false, false, false, false] rfl rfl (any_of HT_.out (by kernel_rfl)) (fun _ _ _ h => h) (Or.inl ⟨by rfl, ?_⟩) ?_ ?_
                  rotate_left
                  ·
                   intro w'
                   go_simp
                   with_reducible rfl
                  rotate_left
                  ·
                   simp only [Act.put, sa_, sb_, sc_, i64_w, i32_w]
                   rfl
                  refine pure_ (i := 7) (N := some 59) (v := ?_) (a' := ?_) #[true, true, true, true, true, true, true, true, false, false, false] rfl rfl (any_of HT_.out (by kernel_rfl)) (fun _ _ _ h => h) (Or.inl ⟨by rfl, ?_⟩) ?_ ?_
                  rotate_left
                  ·
                   intro w'
                   go_simp
                   with_reducible rfl
                  rotate_left
                  ·
                   simp only [Act.put, sa_, sb_, sc_, i64_w, i32_w]
                   rfl
                  refine one_ (i := 8) (N := some 12) #[true, true, true, true, true, true, true, true, true, false, false] rfl rfl (one_of HT_.out (by kernel_rfl)) (by decide) (fun K hK => ?_)
                  refine box_step ?hg (N := 12) ?hd (cs := #[.int .i64 0, .int .i64 0]) (t := 30) ?hr ?_; (case hd => rfl); (case hg => rfl); (case hr => first | (go_simp; done) | (go_simp; rfl))
                  intro gb206 hg w48 hbox hb
                  have n0_ := Aside0.mk (Kd.R_below (Kd.R_elderB (kr_ HO_6) gb206 (Nat.le_of_eq hg.symm)) hb)
                  have n1_ := Aside0.mk (blk_below (g := gb196) (o := .cells #[.int .i64 x197000_2, .int .i64 x197001_2] 30 (0, 0)) (bk_ BK196) hb)
                  have n2_ := Aside0.mk (blk_below (g := gb200) (o := .cells #[.int .i64 (wrap64 (1000000 - t198)), .int .i64 (wrap64 (1000000 - t199))] 30 (0, 0)) (bk_ BK200) hb)
                  have n3_ := Aside0.mk (below_step (bl_ HB) hb)
                  have n4_ := Aside0.mk (hbox)
                  have n5_ := Aside0.mk ((by rw [hg]; exact (below_size (bl_ HB)) : w.heap.size ≤ gb206))
                  have n6_ := Aside0.mk ((by rw [hg]; exact (below_size (bl_ HB)) : w.heap.size ≤ gb206))
                  have n7_ := Aside0.mk ((by rw [hg]; exact Nat.ne_of_lt (blk_lt (g := gb196) (o := .cells #[.int .i64 x197000_2, .int .i64 x197001_2] 30 (0, 0)) (bk_ BK196)) : gb196 ≠ gb206))
                  have n8_ := Aside0.mk ((by rw [hg]; exact Nat.ne_of_gt (blk_lt (g := gb196) (o := .cells #[.int .i64 x197000_2, .int .i64 x197001_2] 30 (0, 0)) (bk_ BK196)) : gb206 ≠ gb196))
                  have n9_ := Aside0.mk ((by rw [hg]; exact Nat.ne_of_lt (blk_lt (g := gb200) (o := .cells #[.int .i64 (wrap64 (1000000 - t198)), .int .i64 (wrap64 (1000000 - t199))] 30 (0, 0)) (bk_ BK200)) : gb200 ≠ gb206))
                  have n10_ := Aside0.mk ((by rw [hg]; exact Nat.ne_of_gt (blk_lt (g := gb200) (o := .cells #[.int .i64 (wrap64 (1000000 - t198)), .int .i64 (wrap64 (1000000 - t199))] 30 (0, 0)) (bk_ BK200)) : gb206 ≠ gb200))
                  clear HO_6
                  clear BK196
                  clear BK200
                  clear HB
                  have HO_6 := n0_
                  have BK196 := n1_
                  have BK200 := n2_
                  have HB := n3_
                  have BK206 := n4_
                  have GW206 := n5_
                  have GE206 := n6_
                  have NB196_206 := n7_
                  have NB206_196 := n8_
                  have NB200_206 := n9_
                  have NB206_200 := n10_
                  clear n0_ n1_ n2_ n3_ n4_ n5_ n6_ n7_ n8_ n9_ n10_
                  clear hb hbox hg
                  refine hK.out _ _ ⟨(blk_cell BK200.out 0).trans rfl, (blk_cell BK200.out 1).trans rfl⟩ (fun hHeld => ?_)
                  clear hK K
                  refine norm_ (a' := ?_) ?_ ?_
                  rotate_left
                  ·
                   show Act.put _ (some 12) _ = _
                   simp only [Act.put, sa_, sb_, sc_, i64_w, i32_w]
                   rfl
                  exact norm_ (by simp only [putAll, Act.put, sa_, sb_, sc_]) (hCont (gb206) _ ⟨hHeld, (by (with_reducible repeat (first | apply Kd.R_alloc | apply Kd.R_drewN | apply Kd.R_drew)); exact Kd.R_mono HO_6.out (fun _ hk => ⟨hk.1.1, ⟨hk.1.2, hk.2⟩⟩)), (bk_ BK196), (bk_ BK200), (bk_ BK206), GW206.out, GE206.out, NB196_206.out, NB206_196.out, NB200_206.out, NB206_200.out, (bl_ HB)⟩)
                 ·
                  skip
                  refine box_step ?hg (N := 12) ?hd (cs := #[.int .i64 0, .int .i64 0]) (t := 30) ?hr ?_; (case hd => rfl); (case hg => rfl); (case hr => first | (go_simp; done) | (go_simp; rfl))
                  intro gb206 hg w47 hbox hb
                  have n0_ := Aside0.mk (Kd.R_below (Kd.R_elderB (kr_ HO_6) gb206 (Nat.le_of_eq hg.symm)) hb)
                  have n1_ := Aside0.mk (blk_below (g := gb196) (o := .cells #[.int .i64 x197000_2, .int .i64 x197001_2] 30 (0, 0)) (bk_ BK196) hb)
                  have n2_ := Aside0.mk (blk_below (g := gb200) (o := .cells #[.int .i64 (wrap64 (1000000 - t198)), .int .i64 (wrap64 (1000000 - t199))] 30 (0, 0)) (bk_ BK200) hb)
                  have n3_ := Aside0.mk (below_step (bl_ HB) hb)
                  have n4_ := Aside0.mk (hbox)
                  have n5_ := Aside0.mk ((by rw [hg]; exact (below_size (bl_ HB)) : w.heap.size ≤ gb206))
                  have n6_ := Aside0.mk ((by rw [hg]; exact (below_size (bl_ HB)) : w.heap.size ≤ gb206))
                  have n7_ := Aside0.mk ((by rw [hg]; exact Nat.ne_of_lt (blk_lt (g := gb196) (o := .cells #[.int .i64 x197000_2, .int .i64 x197001_2] 30 (0, 0)) (bk_ BK196)) : gb196 ≠ gb206))
                  have n8_ := Aside0.mk ((by rw [hg]; exact Nat.ne_of_gt (blk_lt (g := gb196) (o := .cells #[.int .i64 x197000_2, .int .i64 x197001_2] 30 (0, 0)) (bk_ BK196)) : gb206 ≠ gb196))
                  have n9_ := Aside0.mk ((by rw [hg]; exact Nat.ne_of_lt (blk_lt (g := gb200) (o := .cells #[.int .i64 (wrap64 (1000000 - t198)), .int .i64 (wrap64 (1000000 - t199))] 30 (0, 0)) (bk_ BK200)) : gb200 ≠ gb206))
                  have n10_ := Aside0.mk ((by rw [hg]; exact Nat.ne_of_gt (blk_lt (g := gb200) (o := .cells #[.int .i64 (wrap64 (1000000 - t198)), .int .i64 (wrap64 (1000000 - t199))] 30 (0, 0)) (bk_ BK200)) : gb206 ≠ gb200))
                  clear HO_6
                  clear BK196
                  clear BK200
                  clear HB
                  have HO_6 := n0_
                  have BK196 := n1_
                  have BK200 := n2_
                  have HB := n3_
                  have BK206 := n4_
                  have GW206 := n5_
                  have GE206 := n6_
                  have NB196_206 := n7_
                  have NB206_196 := n8_
                  have NB200_206 := n9_
                  have NB206_200 := n10_
                  clear n0_ n1_ n2_ n3_ n4_ n5_ n6_ n7_ n8_ n9_ n10_
                  clear hb hbox hg
                  refine hK.out _ _ ⟨(blk_cell BK200.out 0).trans rfl, (blk_cell BK200.out 1).trans rfl⟩ (fun hHeld => ?_)
                  clear hK K
                  refine norm_ (a' := ?_) ?_ ?_
                  rotate_left
                  ·
                   show Act.put _ (some 12) _ = _
                   simp only [Act.put, sa_, sb_, sc_, i64_w, i32_w]
                   rfl
                  refine one_ (i := 4) (N := some 57) #[true, true, true, true, true, false, false, false, true, false, false] rfl rfl (one_of HT_.out (by kernel_rfl)) (by decide) (fun K hK => ?_)
                  refine goes_ Tryd.func26 (by kernel_rfl) rfl #[.agg #[.int .i64 (wrap64 (1000000 - t198)), .int .i64 (wrap64 (1000000 - t199))], .agg #[.int .i64 t201, .int .i64 t202]] (by rfl) rfl rfl (by (try simp only [List.map_toArray, List.map_cons, List.map_nil]); first | done | rfl | (simp only [List.length_drop, List.length_take]; rfl)) ?_
                  with_reducible refine (impl_Range_through.calls (wrap64 (1000000 - t198)) (wrap64 (1000000 - t199)) t201 t202 t203 t204 none _ ?side1 A20.out).mono ?_
                  (case side1 => first | exact HTab.out | exact Tab.below HTab.out (bl_ HB))
                  rintro e w48 ⟨rfl, hb⟩
                  refine ⟨_, rfl, ?_⟩
                  have n0_ := Aside0.mk (Kd.R_below (kr_ HO_6) hb)
                  have n1_ := Aside0.mk (blk_below (g := gb196) (o := .cells #[.int .i64 x197000_2, .int .i64 x197001_2] 30 (0, 0)) (bk_ BK196) hb)
                  have n2_ := Aside0.mk (blk_below (g := gb200) (o := .cells #[.int .i64 (wrap64 (1000000 - t198)), .int .i64 (wrap64 (1000000 - t199))] 30 (0, 0)) (bk_ BK200) hb)
                  have n3_ := Aside0.mk (blk_below (g := gb206) (o := .cells #[.int .i64 0, .int .i64 0] 30 (0, 0)) (bk_ BK206) hb)
                  have n4_ := Aside0.mk (below_step (bl_ HB) hb)
                  clear HO_6
                  clear BK196
                  clear BK200
                  clear BK206
                  clear HB
                  have HO_6 := n0_
                  have BK196 := n1_
                  have BK200 := n2_
                  have BK206 := n3_
                  have HB := n4_
                  clear n0_ n1_ n2_ n3_ n4_
                  (try clear hb)
                  (try clear hb2)
                  (try clear hk)
                  (try clear hi)
                  (try simp only [errW_none, errW_some])
                  refine hK.out _ _ ⟨(blk_cell BK200.out 0).trans rfl, (blk_cell BK200.out 1).trans rfl⟩ (fun hHeld => ?_)
                  clear hK K
                  refine norm_ (a' := ?_) ?_ ?_
                  rotate_left
                  ·
                   show Act.put _ (some 57) _ = _
                   simp only [Act.put, sa_, sb_, sc_, i64_w, i32_w]
                   rfl
                  refine pure_ (i := 5) (N := some 52) (v := ?_) (a' := ?_) #[true, true, true, true, true, true, false, false, true, false, false] rfl rfl (any_of HT_.out (by kernel_rfl)) (fun _ _ _ h => h) (Or.inl ⟨by rfl, ?_⟩) ?_ ?_
                  rotate_left
                  ·
                   intro w'
                   go_simp
                   with_reducible rfl
                  rotate_left
                  ·
                   simp only [Act.put, sa_, sb_, sc_, i64_w, i32_w]
                   rfl
                  refine pure_ (i := 6) (N := some 58) (v := ?_) (a' := ?_) #[true, true, true, true, true, true, true, false, true, false, false] rfl rfl (any_of HT_.out (by kernel_rfl)) (fun _ _ _ h => h) (Or.inl ⟨by rfl, ?_⟩) ?_ ?_
                  rotate_left
                  ·
                   intro w'
                   go_simp
                   with_reducible rfl
                  rotate_left
                  ·
                   simp only [Act.put, sa_, sb_, sc_, i64_w, i32_w]
                   rfl
                  refine pure_ (i := 7) (N := some 59) (v := ?_) (a' := ?_) #[true, true, true, true, true, true, true, true, true, false, false] rfl rfl (any_of HT_.out (by kernel_rfl)) (fun _ _ _ h => h) (Or.inl ⟨by rfl, ?_⟩) ?_ ?_
                  rotate_left
                  ·
                   intro w'
                   go_simp
                   with_reducible rfl
                  rotate_left
                  ·
                   simp only [Act.put, sa_, sb_, sc_, i64_w, i32_w]
                   rfl
                  exact norm_ (by simp only [putAll, Act.put, sa_, sb_, sc_]) (hCont (gb206) _ ⟨hHeld, (by (with_reducible repeat (first | apply Kd.R_alloc | apply Kd.R_drewN | apply Kd.R_drew)); exact Kd.R_mono HO_6.out (fun _ hk => ⟨hk.1.1, ⟨hk.1.2, hk.2⟩⟩)), (bk_ BK196), (bk_ BK200), (bk_ BK206), GW206.out, GE206.out, NB196_206.out, NB206_196.out, NB200_206.out, NB206_200.out, (bl_ HB)⟩)
                ·
                 skip
                 refine box_step ?hg (N := 12) ?hd (cs := #[.int .i64 0, .int .i64 0]) (t := 30) ?hr ?_; (case hd => rfl); (case hg => rfl); (case hr => first | (go_simp; done) | (go_simp; rfl))
                 intro gb206 hg w46 hbox hb
                 have n0_ := Aside0.mk (Kd.R_below (Kd.R_elderB (kr_ HO_6) gb206 (Nat.le_of_eq hg.symm)) hb)
                 have n1_ := Aside0.mk (blk_below (g := gb196) (o := .cells #[.int .i64 x197000_2, .int .i64 x197001_2] 30 (0, 0)) (bk_ BK196) hb)
                 have n2_ := Aside0.mk (blk_below (g := gb200) (o := .cells #[.int .i64 (wrap64 (1000000 - t198)), .int .i64 (wrap64 (1000000 - t199))] 30 (0, 0)) (bk_ BK200) hb)
                 have n3_ := Aside0.mk (below_step (bl_ HB) hb)
                 have n4_ := Aside0.mk (hbox)
                 have n5_ := Aside0.mk ((by rw [hg]; exact (below_size (bl_ HB)) : w.heap.size ≤ gb206))
                 have n6_ := Aside0.mk ((by rw [hg]; exact (below_size (bl_ HB)) : w.heap.size ≤ gb206))
                 have n7_ := Aside0.mk ((by rw [hg]; exact Nat.ne_of_lt (blk_lt (g := gb196) (o := .cells #[.int .i64 x197000_2, .int .i64 x197001_2] 30 (0, 0)) (bk_ BK196)) : gb196 ≠ gb206))
                 have n8_ := Aside0.mk ((by rw [hg]; exact Nat.ne_of_gt (blk_lt (g := gb196) (o := .cells #[.int .i64 x197000_2, .int .i64 x197001_2] 30 (0, 0)) (bk_ BK196)) : gb206 ≠ gb196))
                 have n9_ := Aside0.mk ((by rw [hg]; exact Nat.ne_of_lt (blk_lt (g := gb200) (o := .cells #[.int .i64 (wrap64 (1000000 - t198)), .int .i64 (wrap64 (1000000 - t199))] 30 (0, 0)) (bk_ BK200)) : gb200 ≠ gb206))
                 have n10_ := Aside0.mk ((by rw [hg]; exact Nat.ne_of_gt (blk_lt (g := gb200) (o := .cells #[.int .i64 (wrap64 (1000000 - t198)), .int .i64 (wrap64 (1000000 - t199))] 30 (0, 0)) (bk_ BK200)) : gb206 ≠ gb200))
                 clear HO_6
                 clear BK196
                 clear BK200
                 clear HB
                 have HO_6 := n0_
                 have BK196 := n1_
                 have BK200 := n2_
                 have HB := n3_
                 have BK206 := n4_
                 have GW206 := n5_
                 have GE206 := n6_
                 have NB196_206 := n7_
                 have NB206_196 := n8_
                 have NB200_206 := n9_
                 have NB206_200 := n10_
                 clear n0_ n1_ n2_ n3_ n4_ n5_ n6_ n7_ n8_ n9_ n10_
                 clear hb hbox hg
                 refine hK.out _ _ ⟨(blk_cell BK200.out 0).trans rfl, (blk_cell BK200.out 1).trans rfl⟩ (fun hHeld => ?_)
                 clear hK K
                 refine norm_ (a' := ?_) ?_ ?_
                 rotate_left
                 ·
                  show Act.put _ (some 12) _ = _
                  simp only [Act.put, sa_, sb_, sc_, i64_w, i32_w]
                  rfl
                 refine one_ (i := 3) (N := some 56) #[true, true, true, true, false, false, false, false, true, false, false] rfl rfl (one_of HT_.out (by kernel_rfl)) (by decide) (fun K hK => ?_)
                 refine goes_ Tryd.func27 (by kernel_rfl) rfl #[.int .i64 (wrap64 (1000000 + (wrap64 (100 * (rd l0 x33_2)))))] (by rfl) rfl rfl (by (try simp only [List.map_toArray, List.map_cons, List.map_nil]); first | done | rfl | (simp only [List.length_drop, List.length_take]; rfl)) ?_
                 with_reducible refine (impl_exactly.calls (wrap64 (1000000 + (wrap64 (100 * (rd l0 x33_2))))) t201 t202 _ A19.out).mono ?_
                 rintro e w47 ⟨rfl, hb⟩
                 refine ⟨_, rfl, ?_⟩
                 have n0_ := Aside0.mk (Kd.R_below (kr_ HO_6) hb)
                 have n1_ := Aside0.mk (blk_below (g := gb196) (o := .cells #[.int .i64 x197000_2, .int .i64 x197001_2] 30 (0, 0)) (bk_ BK196) hb)
                 have n2_ := Aside0.mk (blk_below (g := gb200) (o := .cells #[.int .i64 (wrap64 (1000000 - t198)), .int .i64 (wrap64 (1000000 - t199))] 30 (0, 0)) (bk_ BK200) hb)
                 have n3_ := Aside0.mk (blk_below (g := gb206) (o := .cells #[.int .i64 0, .int .i64 0] 30 (0, 0)) (bk_ BK206) hb)
                 have n4_ := Aside0.mk (below_step (bl_ HB) hb)
                 clear HO_6
                 clear BK196
                 clear BK200
                 clear BK206
                 clear HB
                 have HO_6 := n0_
                 have BK196 := n1_
                 have BK200 := n2_
                 have BK206 := n3_
                 have HB := n4_
                 clear n0_ n1_ n2_ n3_ n4_
                 (try clear hb)
                 (try clear hb2)
                 (try clear hk)
                 (try clear hi)
                 refine hK.out _ _ ⟨(blk_cell BK200.out 0).trans rfl, (blk_cell BK200.out 1).trans rfl⟩ (fun hHeld => ?_)
                 clear hK K
                 refine norm_ (a' := ?_) ?_ ?_
                 rotate_left
                 ·
                  show Act.put _ (some 56) _ = _
                  simp only [Act.put, sa_, sb_, sc_, i64_w, i32_w]
                  rfl
                 refine one_ (i := 4) (N := some 57) #[true, true, true, true, true, false, false, false, true, false, false] rfl rfl (one_of HT_.out (by kernel_rfl)) (by decide) (fun K hK => ?_)
                 refine goes_ Tryd.func26 (by kernel_rfl) rfl #[.agg #[.int .i64 (wrap64 (1000000 - t198)), .int .i64 (wrap64 (1000000 - t199))], .agg #[.int .i64 t201, .int .i64 t202]] (by rfl) rfl rfl (by (try simp only [List.map_toArray, List.map_cons, List.map_nil]); first | done | rfl | (simp only [List.length_drop, List.length_take]; rfl)) ?_
                 with_reducible refine (impl_Range_through.calls (wrap64 (1000000 - t198)) (wrap64 (1000000 - t199)) t201 t202 t203 t204 none _ ?side1 A20.out).mono ?_
                 (case side1 => first | exact HTab.out | exact Tab.below HTab.out (bl_ HB))
                 rintro e w48 ⟨rfl, hb⟩
                 refine ⟨_, rfl, ?_⟩
                 have n0_ := Aside0.mk (Kd.R_below (kr_ HO_6) hb)
                 have n1_ := Aside0.mk (blk_below (g := gb196) (o := .cells #[.int .i64 x197000_2, .int .i64 x197001_2] 30 (0, 0)) (bk_ BK196) hb)
                 have n2_ := Aside0.mk (blk_below (g := gb200) (o := .cells #[.int .i64 (wrap64 (1000000 - t198)), .int .i64 (wrap64 (1000000 - t199))] 30 (0, 0)) (bk_ BK200) hb)
                 have n3_ := Aside0.mk (blk_below (g := gb206) (o := .cells #[.int .i64 0, .int .i64 0] 30 (0, 0)) (bk_ BK206) hb)
                 have n4_ := Aside0.mk (below_step (bl_ HB) hb)
                 clear HO_6
                 clear BK196
                 clear BK200
                 clear BK206
                 clear HB
                 have HO_6 := n0_
                 have BK196 := n1_
                 have BK200 := n2_
                 have BK206 := n3_
                 have HB := n4_
                 clear n0_ n1_ n2_ n3_ n4_
                 (try clear hb)
                 (try clear hb2)
                 (try clear hk)
                 (try clear hi)
                 (try simp only [errW_none, errW_some])
                 refine hK.out _ _ ⟨(blk_cell BK200.out 0).trans rfl, (blk_cell BK200.out 1).trans rfl⟩ (fun hHeld => ?_)
                 clear hK K
                 refine norm_ (a' := ?_) ?_ ?_
                 rotate_left
                 ·
                  show Act.put _ (some 57) _ = _
                  simp only [Act.put, sa_, sb_, sc_, i64_w, i32_w]
                  rfl
                 refine pure_ (i := 5) (N := some 52) (v := ?_) (a' := ?_) #[true, true, true, true, true, true, false, false, true, false, false] rfl rfl (any_of HT_.out (by kernel_rfl)) (fun _ _ _ h => h) (Or.inl ⟨by rfl, ?_⟩) ?_ ?_
                 rotate_left
                 ·
                  intro w'
                  go_simp
                  with_reducible rfl
                 rotate_left
                 ·
                  simp only [Act.put, sa_, sb_, sc_, i64_w, i32_w]
                  rfl
                 refine pure_ (i := 6) (N := some 58) (v := ?_) (a' := ?_) #[true, true, true, true, true, true, true, false, true, false, false] rfl rfl (any_of HT_.out (by kernel_rfl)) (fun _ _ _ h => h) (Or.inl ⟨by rfl, ?_⟩) ?_ ?_
                 rotate_left
                 ·
                  intro w'
                  go_simp
                  with_reducible rfl
                 rotate_left
                 ·
                  simp only [Act.put, sa_, sb_, sc_, i64_w, i32_w]
                  rfl
                 refine pure_ (i := 7) (N := some 59) (v := ?_) (a' := ?_) #[true, true, true, true, true, true, true, true, true, false, false] rfl rfl (any_of HT_.out (by kernel_rfl)) (fun _ _ _ h => h) (Or.inl ⟨by rfl, ?_⟩) ?_ ?_
                 rotate_left
                 ·
                  intro w'
                  go_simp
                  with_reducible rfl
                 rotate_left
                 ·
                  simp only [Act.put, sa_, sb_, sc_, i64_w, i32_w]
                  rfl
                 exact norm_ (by simp only [putAll, Act.put, sa_, sb_, sc_]) (hCont (gb206) _ ⟨hHeld, (by (with_reducible repeat (first | apply Kd.R_alloc | apply Kd.R_drewN | apply Kd.R_drew)); exact Kd.R_mono HO_6.out (fun _ hk => ⟨hk.1.1, ⟨hk.1.2, hk.2⟩⟩)), (bk_ BK196), (bk_ BK200), (bk_ BK206), GW206.out, GE206.out, NB196_206.out, NB206_196.out, NB200_206.out, NB206_200.out, (bl_ HB)⟩)
               rintro gb206 w49 ⟨hS_, h0_, h1_, h2_, h3_, h4_, h5_, h6_, h7_, h8_, h9_, h10_⟩
               have n0_ : Aside0 (Kd.R k30 30 w49 w.heap.size (fun k_ => k_ ≠ gb196 ∧ k_ ≠ gb200 ∧ k_ ≠ gb206) u6 x6_2) := ⟨h0_⟩
               have n1_ : Aside0 (w49.heap[gb196]? = some (.cells #[.int .i64 x197000_2, .int .i64 x197001_2] 30 (0, 0))) := ⟨h1_⟩
               have n2_ : Aside0 (w49.heap[gb200]? = some (.cells #[.int .i64 (wrap64 (1000000 - t198)), .int .i64 (wrap64 (1000000 - t199))] 30 (0, 0))) := ⟨h2_⟩
               have n3_ : Aside0 (w49.heap[gb206]? = some (.cells #[.int .i64 0, .int .i64 0] 30 (0, 0))) := ⟨h3_⟩
               have n4_ : Aside0 (w.heap.size ≤ gb206) := ⟨h4_⟩
               have n5_ : Aside0 (w.heap.size ≤ gb206) := ⟨h5_⟩
               have n6_ : Aside0 (gb196 ≠ gb206) := ⟨h6_⟩
               have n7_ : Aside0 (gb206 ≠ gb196) := ⟨h7_⟩
               have n8_ : Aside0 (gb200 ≠ gb206) := ⟨h8_⟩
               have n9_ : Aside0 (gb206 ≠ gb200) := ⟨h9_⟩
               have n10_ : Aside0 (Below w.heap.size w w49) := ⟨h10_⟩
               clear HO_6
               clear BK196
               clear BK200
               clear HB
               clear h0_ h1_ h2_ h3_ h4_ h5_ h6_ h7_ h8_ h9_ h10_
               have HO_6 := n0_
               have BK196 := n1_
               have BK200 := n2_
               have BK206 := n3_
               have GW206 := n4_
               have GE206 := n5_
               have NB196_206 := n6_
               have NB206_196 := n7_
               have NB200_206 := n8_
               have NB206_200 := n9_
               have HB := n10_
               clear n0_ n1_ n2_ n3_ n4_ n5_ n6_ n7_ n8_ n9_ n10_
               have hHeld : w49.cell? ⟨gb200, 0, none⟩ = some (.int .i64 (wrap64 (1000000 - t198))) ∧ w49.cell? ⟨gb200, 1, none⟩ = some (.int .i64 (wrap64 (1000000 - t199))) := hS_
               refine norm_ (a' := ?_) ?_ ?_
               rotate_left
               ·
                simp only [putAll, Act.put, sa_, sb_, sc_]
                rfl
               refine one_ (i := 9) (N := none) #[true, true, true, true, true, true, true, true, true, true, false] rfl rfl (one_of HT_.out (by kernel_rfl)) (by decide) (fun K hK => ?_)
               have hs50 : w49.cell? ⟨gb206, 0, none⟩ = some (.int .i64 0) := (blk_cell BK206.out 0).trans rfl
               have hfs50 := blk_frozen BK206.out 0
               have hns50_0 := NB196_206.out
               have hns50_1 := NB200_206.out
               have hms50_0 := NB206_196.out
               have hms50_1 := NB206_200.out
               have hs51 : w49.cell? ⟨gb206, 1, none⟩ = some (.int .i64 0) := (blk_cell BK206.out 1).trans rfl
               have hfs51 := blk_frozen BK206.out 1
               have hns51_0 := NB196_206.out
               have hns51_1 := NB200_206.out
               have hms51_0 := NB206_196.out
               have hms51_1 := NB206_200.out
               refine skip_ (w1 := ?_) (by rfl) rfl ?_ ?_
               rotate_left
               ·
                go_simp
                rfl
               refine hK.out _ _ ⟨((cell_far (p := ⟨gb206, _, none⟩) NB200_206.out _).trans (((cell_far (p := ⟨gb206, _, none⟩) NB200_206.out _).trans (hHeld.1)))), ((cell_far (p := ⟨gb206, _, none⟩) NB200_206.out _).trans (((cell_far (p := ⟨gb206, _, none⟩) NB200_206.out _).trans (hHeld.2))))⟩ (fun hHeld => ?_)
               clear hK K
               refine pure_ (i := 10) (N := some 13) (v := ?_) (a' := ?_) #[true, true, true, true, true, true, true, true, true, true, true] rfl rfl (any_of HT_.out (by kernel_rfl)) (fun _ _ _ h => h) (Or.inl ⟨by rfl, ?_⟩) ?_ ?_
               rotate_left
               ·
                intro w'
                go_simp
                with_reducible rfl
               rotate_left
               ·
                simp only [Act.put, sa_, sb_, sc_, i64_w, i32_w]
                rfl
               refine done_ (done_of HT_.out (by kernel_rfl)) ?_
               have hnb52 := NB200_196.out
               have hnc52 := NB196_200.out
               have hnb53 := NB200_206.out
               have hnc53 := NB206_200.out
               have hcz54_0 : w49.cell? ⟨gb200, 0, none⟩ = some (.int .i64 (wrap64 (1000000 - t198))) := (blk_cell BK200.out 0).trans rfl
               have hcz54_1 : w49.cell? ⟨gb200, 1, none⟩ = some (.int .i64 (wrap64 (1000000 - t199))) := (blk_cell BK200.out 1).trans rfl
               have hfz54_0 := blk_frozen BK200.out 0
               have hfz54_1 := blk_frozen BK200.out 1
               have hnb55 := NB206_196.out
               have hnc55 := NB196_206.out
               have hcz56_0 : w49.cell? ⟨gb206, 0, none⟩ = some (.int .i64 0) := (blk_cell BK206.out 0).trans rfl
               have hcz56_1 : w49.cell? ⟨gb206, 1, none⟩ = some (.int .i64 0) := (blk_cell BK206.out 1).trans rfl
               have hfz56_0 := blk_frozen BK206.out 0
               have hfz56_1 := blk_frozen BK206.out 1
               try go_wp2
               go_ret2
               exact ⟨_, by first | rfl | (simp [errW_none, errW_some] <;> rfl) | (simp [*, errW_none, errW_some] <;> rfl), by first | exact Kd.R_nil _ _ _ _ _ | exact Kd.N_nil _ _ _ _ _ | exact Kd.V_nil _ _ _ _ _ | exact Kd.Q_nil _ _ _ _ _ | exact Kd.S_nil _ _ _ _ _, by repeat (first | (with_reducible first | exact HB.out | apply below_alloc | apply pw_below_drewN | apply below_drew1 | refine below_set ?_ GE196.out | refine below_set ?_ GE200.out | refine below_set ?_ GE206.out) | exact HB.out)⟩
              ·
               rw [if_neg c38] at H
               have c38b0 : decide (t203 ≤ 0) = false := decide_eq_false c38
               clear c38
               by_cases c57 : x6_2.length < 8796093022208
               ·
                rw [if_pos c57] at H
                have LMc57 := Aside0.mk c57
                clear c57
                obtain ⟨y208, hy208⟩ : ∃ y_ : List (S30), y_ = (x6_2 ++ [(⟨t203, t204⟩ : S30)]) := ⟨_, rfl⟩
                replace H : (impl_CurveOf.l1 k2 y208 l0 (l0.length : Int) (wrap64 (x33_2 + 1)) (wrap64 (x197000_2 + t203)) (wrap64 (x197001_2 + t204))) = some (r1, r2) := by first | (rw [hy208]; with_reducible exact H) | (have H2_ := (Option.bind_some _ _).symm.trans H; rw [hy208]; with_reducible exact H2_) | (have H2_ := (Option.bind_some _ _).symm.trans H; with_reducible exact H2_) | with_reducible exact H | (rw [hy208]; exact H) | exact H
                have Ny208 := Aside0.mk hy208
                clear hy208
                have H' := Aside0.mk H
                clear H
                have p197 : 0 ≤ (x33_2 : Int) := of_decide_eq_true (by first | (with_reducible assumption) | assumption)
                have q197 : x33_2 < (l0.length : Int) := of_decide_eq_true (by first | (with_reducible assumption) | assumption)
                obtain ⟨ad197, e197, hx197_0⟩ := Kd.at_int HR0.out x33_2 p197 q197
                cases e197
                replace hx197_0 := (HB.out.cell (World.block_lt_of_cell? w _ hx197_0)).trans hx197_0
                replace p197 := eq_true p197
                replace q197 := eq_true q197
                try go_wp2
                have n0_ := Aside0.mk (Kd.R_drew HO_6.out)
                have n1_ := Aside0.mk (blk_drew BK196.out)
                have n2_ := Aside0.mk (below_drew1 HB.out)
                clear HO_6
                clear BK196
                clear HB
                have HO_6 := n0_
                have BK196 := n1_
                have HB := n2_
                clear n0_ n1_ n2_
                refine start_ (n := 15) (S := fun w' => w'.cell? ⟨gb196, 0, none⟩ = some (.int .i64 x197000_2) ∧ w'.cell? ⟨gb196, 1, none⟩ = some (.int .i64 x197001_2)) (ds := []) #[false, false, false, false, false, false, false, false, false, false, false, false, false, false, false] (by kernel_rfl) rfl rfl ⟨(blk_cell BK196.out 0).trans rfl, (blk_cell BK196.out 1).trans rfl⟩ (fun hHeld => ?_); refine with_tabW impl_CurveOf.tab15 impl_CurveOf.bits15 (fun HT_ HW_ => ?_)
                generalize wr.drew = w58 at HO_6 BK196 HB hHeld ⊢
                refine pure_ (i := 0) (N := some 39) (v := ?_) (a' := ?_) #[true, false, false, false, false, false, false, false, false, false, false, false, false, false, false] rfl rfl (any_of HT_.out (by kernel_rfl)) (fun _ _ _ h => h) (Or.inl ⟨by rfl, ?_⟩) ?_ ?_
                rotate_left
                ·
                 intro w'
                 go_simp
                 with_reducible rfl
                rotate_left
                ·
                 simp only [Act.put, sa_, sb_, sc_, i64_w, i32_w]
                 rfl
                refine pure_ (i := 1) (N := some 40) (v := ?_) (a' := ?_) #[true, true, false, false, false, false, false, false, false, false, false, false, false, false, false] rfl rfl (any_of HT_.out (by kernel_rfl)) (fun _ _ _ h => h) (Or.inl ⟨by rfl, ?_⟩) ?_ ?_
                rotate_left
                ·
                 intro w'
                 go_simp
                 with_reducible rfl
                rotate_left
                ·
                 simp only [Act.put, sa_, sb_, sc_, i64_w, i32_w]
                 rfl
                refine pure_ (i := 6) (N := some 45) (v := ?_) (a' := ?_) #[true, true, false, false, false, false, true, false, false, false, false, false, false, false, false] rfl rfl (any_of HT_.out (by kernel_rfl)) (fun _ _ _ h => h) (Or.inl ⟨by rfl, ?_⟩) ?_ ?_
                rotate_left
                ·
                 intro w'
                 go_simp
                 with_reducible rfl
                rotate_left
                ·
                 simp only [Act.put, sa_, sb_, sc_, i64_w, i32_w]
                 rfl
                refine pure_ (i := 7) (N := some 46) (v := ?_) (a' := ?_) #[true, true, false, false, false, false, true, true, false, false, false, false, false, false, false] rfl rfl (any_of HT_.out (by kernel_rfl)) (fun _ _ _ h => h) (Or.inl ⟨by rfl, ?_⟩) ?_ ?_
                rotate_left
                ·
                 intro w'
                 go_simp
                 with_reducible rfl
                rotate_left
                ·
                 simp only [Act.put, sa_, sb_, sc_, i64_w, i32_w]
                 rfl
                refine take_ (i := 2) (N := some 41) (v := ?_) (a' := ?_) #[true, true, true, false, false, false, true, true, false, false, false, false, false, false, false] rfl rfl (take_ofW HT_.out HW_.out (by kernel_rfl)) (fun _ _ _ h => h) (Or.inl ⟨by rfl, ?_⟩) hHeld ?_ ?_
                rotate_left
                ·
                 rintro w' ⟨s0, s1⟩
                 go_simp
                 with_reducible rfl
                rotate_left
                ·
                 simp only [Act.put, sa_, sb_, sc_, i64_w, i32_w]
                 rfl
                refine pure_ (i := 3) (N := some 42) (v := ?_) (a' := ?_) #[true, true, true, true, false, false, true, true, false, false, false, false, false, false, false] rfl rfl (any_of HT_.out (by kernel_rfl)) (fun _ _ _ h => h) (Or.inl ⟨by rfl, ?_⟩) ?_ ?_
                rotate_left
                ·
                 intro w'
                 go_simp
                 with_reducible rfl
                rotate_left
                ·
                 simp only [Act.put, sa_, sb_, sc_, i64_w, i32_w]
                 rfl
                refine take_ (i := 8) (N := some 47) (v := ?_) (a' := ?_) #[true, true, true, true, false, false, true, true, true, false, false, false, false, false, false] rfl rfl (take_ofW HT_.out HW_.out (by kernel_rfl)) (fun _ _ _ h => h) (Or.inl ⟨by rfl, ?_⟩) hHeld ?_ ?_
                rotate_left
                ·
                 rintro w' ⟨s0, s1⟩
                 go_simp
                 with_reducible rfl
                rotate_left
                ·
                 simp only [Act.put, sa_, sb_, sc_, i64_w, i32_w]
                 rfl
                refine pure_ (i := 9) (N := some 48) (v := ?_) (a' := ?_) #[true, true, true, true, false, false, true, true, true, true, false, false, false, false, false] rfl rfl (any_of HT_.out (by kernel_rfl)) (fun _ _ _ h => h) (Or.inl ⟨by rfl, ?_⟩) ?_ ?_
                rotate_left
                ·
                 intro w'
                 go_simp
                 with_reducible rfl
                rotate_left
                ·
                 simp only [Act.put, sa_, sb_, sc_, i64_w, i32_w]
                 rfl
                refine join_ (σ := Nat) 1 #[true, true, true, true, true, true, true, true, true, true, true, true, true, true, false] (fun s_ => [(43, .int .i64 t198), (49, .int .i64 t199), (11, .pointer (some ⟨s_, 0, none⟩)), (44, .int .i64 (wrap64 (1000000 - t198))), (50, .int .i64 (wrap64 (1000000 - t199))), (51, .agg #[.int .i64 (wrap64 (1000000 - t198)), .int .i64 (wrap64 (1000000 - t199))])]) (fun s_ w' => (w'.cell? ⟨gb196, 0, none⟩ = some (.int .i64 x197000_2) ∧ w'.cell? ⟨gb196, 1, none⟩ = some (.int .i64 x197001_2)) ∧ (Kd.R k30 30 w' w.heap.size (fun k_ => k_ ≠ gb196 ∧ k_ ≠ s_) u6 x6_2) ∧ (w'.heap[gb196]? = some (.cells #[.int .i64 x197000_2, .int .i64 x197001_2] 30 (0, 0))) ∧ (w'.heap[s_]? = some (.cells #[.int .i64 0, .int .i64 0] 30 (0, 0))) ∧ (w.heap.size ≤ s_) ∧ (w.heap.size ≤ s_) ∧ (gb196 ≠ s_) ∧ (s_ ≠ gb196) ∧ (Below w.heap.size w w')) ?_ ?_
                rotate_left
                ·
                 intro hCont
                 refine two_ (i := 4) (j := 13) (Ni := some 43) (Nj := some 11) #[true, true, true, true, true, false, true, true, true, true, false, false, false, false, false] #[true, true, true, true, false, false, true, true, true, true, false, false, false, true, false] rfl rfl rfl rfl (two_of HT_.out (by kernel_rfl)) (by decide) (by decide) (fun K hK => ?_) (fun K hK => ?_)
                 ·
                  skip
                  refine goes_ Tryd.func24 (by kernel_rfl) rfl #[.int .i64 (wrap64 ((wrap64 (100 * (rd l0 x33_2))) * x197001_2)), .int .i64 1000000] (by rfl) rfl rfl (by (try simp only [List.map_toArray, List.map_cons, List.map_nil]); first | done | rfl | (simp only [List.length_drop, List.length_take]; rfl)) ?_
                  with_reducible refine (impl_ceil.calls (wrap64 ((wrap64 (100 * (rd l0 x33_2))) * x197001_2)) 1000000 t198 _ A17.out).mono ?_
                  rintro e w' ⟨rfl, ⟨nd, rfl⟩⟩
                  refine ⟨_, rfl, ?_⟩
                  refine hK.out _ _ ⟨(blk_cell BK196.out 0).trans rfl, (blk_cell BK196.out 1).trans rfl⟩ (fun hHeld => ?_)
                  clear hK K
                  refine norm_ (a' := ?_) ?_ ?_
                  rotate_left
                  ·
                   show Act.put _ (some 43) _ = _
                   simp only [Act.put, sa_, sb_, sc_, i64_w, i32_w]
                   rfl
                  refine pure_ (i := 5) (N := some 44) (v := ?_) (a' := ?_) #[true, true, true, true, true, true, true, true, true, true, false, false, false, false, false] rfl rfl (any_of HT_.out (by kernel_rfl)) (fun _ _ _ h => h) (Or.inl ⟨by rfl, ?_⟩) ?_ ?_
                  rotate_left
                  ·
                   intro w'
                   go_simp
                   with_reducible rfl
                  rotate_left
                  ·
                   simp only [Act.put, sa_, sb_, sc_, i64_w, i32_w]
                   rfl
                  refine two_ (i := 10) (j := 13) (Ni := some 49) (Nj := some 11) #[true, true, true, true, true, true, true, true, true, true, true, false, false, false, false] #[true, true, true, true, true, true, true, true, true, true, false, false, false, true, false] rfl rfl rfl rfl (two_of HT_.out (by kernel_rfl)) (by decide) (by decide) (fun K hK => ?_) (fun K hK => ?_)
                  ·
                   skip
                   refine goes_ Tryd.func25 (by kernel_rfl) rfl #[.int .i64 (wrap64 ((wrap64 (100 * (rd l0 x33_2))) * x197000_2)), .int .i64 1000000] (by rfl) rfl rfl (by (try simp only [List.map_toArray, List.map_cons, List.map_nil]); first | done | rfl | (simp only [List.length_drop, List.length_take]; rfl)) ?_
                   with_reducible refine (impl_floor.calls (wrap64 ((wrap64 (100 * (rd l0 x33_2))) * x197000_2)) 1000000 t199 _ A18.out).mono ?_
                   rintro e w' ⟨rfl, ⟨nd, rfl⟩⟩
                   refine ⟨_, rfl, ?_⟩
                   refine hK.out _ _ ⟨(blk_cell BK196.out 0).trans rfl, (blk_cell BK196.out 1).trans rfl⟩ (fun hHeld => ?_)
                   clear hK K
                   refine norm_ (a' := ?_) ?_ ?_
                   rotate_left
                   ·
                    show Act.put _ (some 49) _ = _
                    simp only [Act.put, sa_, sb_, sc_, i64_w, i32_w]
                    rfl
                   refine pure_ (i := 11) (N := some 50) (v := ?_) (a' := ?_) #[true, true, true, true, true, true, true, true, true, true, true, true, false, false, false] rfl rfl (any_of HT_.out (by kernel_rfl)) (fun _ _ _ h => h) (Or.inl ⟨by rfl, ?_⟩) ?_ ?_
                   rotate_left
                   ·
                    intro w'
                    go_simp
                    with_reducible rfl
                   rotate_left
                   ·
                    simp only [Act.put, sa_, sb_, sc_, i64_w, i32_w]
                    rfl
                   refine pure_ (i := 12) (N := some 51) (v := ?_) (a' := ?_) #[true, true, true, true, true, true, true, true, true, true, true, true, true, false, false] rfl rfl (any_of HT_.out (by kernel_rfl)) (fun _ _ _ h => h) (Or.inl ⟨by rfl, ?_⟩) ?_ ?_
                   rotate_left
                   ·
                    intro w'
                    go_simp
                    with_reducible rfl
                   rotate_left
                   ·
                    simp only [Act.put, sa_, sb_, sc_, i64_w, i32_w]
                    rfl
                   refine one_ (i := 13) (N := some 11) #[true, true, true, true, true, true, true, true, true, true, true, true, true, true, false] rfl rfl (one_of HT_.out (by kernel_rfl)) (by decide) (fun K hK => ?_)
                   refine box_step ?hg (N := 11) ?hd (cs := #[.int .i64 0, .int .i64 0]) (t := 30) ?hr ?_; (case hd => rfl); (case hg => rfl); (case hr => first | (go_simp; done) | (go_simp; rfl))
                   intro gb200 hg w59 hbox hb
                   have n0_ := Aside0.mk (Kd.R_below (Kd.R_elderB (kr_ HO_6) gb200 (Nat.le_of_eq hg.symm)) hb)
                   have n1_ := Aside0.mk (blk_below (g := gb196) (o := .cells #[.int .i64 x197000_2, .int .i64 x197001_2] 30 (0, 0)) (bk_ BK196) hb)
                   have n2_ := Aside0.mk (below_step (bl_ HB) hb)
                   have n3_ := Aside0.mk (hbox)
                   have n4_ := Aside0.mk ((by rw [hg]; exact (below_size (bl_ HB)) : w.heap.size ≤ gb200))
                   have n5_ := Aside0.mk ((by rw [hg]; exact (below_size (bl_ HB)) : w.heap.size ≤ gb200))
                   have n6_ := Aside0.mk ((by rw [hg]; exact Nat.ne_of_lt (blk_lt (g := gb196) (o := .cells #[.int .i64 x197000_2, .int .i64 x197001_2] 30 (0, 0)) (bk_ BK196)) : gb196 ≠ gb200))
                   have n7_ := Aside0.mk ((by rw [hg]; exact Nat.ne_of_gt (blk_lt (g := gb196) (o := .cells #[.int .i64 x197000_2, .int .i64 x197001_2] 30 (0, 0)) (bk_ BK196)) : gb200 ≠ gb196))
                   clear HO_6
                   clear BK196
                   clear HB
                   have HO_6 := n0_
                   have BK196 := n1_
                   have HB := n2_
                   have BK200 := n3_
                   have GW200 := n4_
                   have GE200 := n5_
                   have NB196_200 := n6_
                   have NB200_196 := n7_
                   clear n0_ n1_ n2_ n3_ n4_ n5_ n6_ n7_
                   clear hb hbox hg
                   refine hK.out _ _ ⟨(blk_cell BK196.out 0).trans rfl, (blk_cell BK196.out 1).trans rfl⟩ (fun hHeld => ?_)
                   clear hK K
                   refine norm_ (a' := ?_) ?_ ?_
                   rotate_left
                   ·
                    show Act.put _ (some 11) _ = _
                    simp only [Act.put, sa_, sb_, sc_, i64_w, i32_w]
                    rfl
                   exact norm_ (by simp only [putAll, Act.put, sa_, sb_, sc_]) (hCont (gb200) _ ⟨hHeld, (kr_ HO_6), (bk_ BK196), (bk_ BK200), GW200.out, GE200.out, NB196_200.out, NB200_196.out, (bl_ HB)⟩)
                  ·
                   skip
                   refine box_step ?hg (N := 11) ?hd (cs := #[.int .i64 0, .int .i64 0]) (t := 30) ?hr ?_; (case hd => rfl); (case hg => rfl); (case hr => first | (go_simp; done) | (go_simp; rfl))
                   intro gb200 hg w59 hbox hb
                   have n0_ := Aside0.mk (Kd.R_below (Kd.R_elderB (kr_ HO_6) gb200 (Nat.le_of_eq hg.symm)) hb)
                   have n1_ := Aside0.mk (blk_below (g := gb196) (o := .cells #[.int .i64 x197000_2, .int .i64 x197001_2] 30 (0, 0)) (bk_ BK196) hb)
                   have n2_ := Aside0.mk (below_step (bl_ HB) hb)
                   have n3_ := Aside0.mk (hbox)
                   have n4_ := Aside0.mk ((by rw [hg]; exact (below_size (bl_ HB)) : w.heap.size ≤ gb200))
                   have n5_ := Aside0.mk ((by rw [hg]; exact (below_size (bl_ HB)) : w.heap.size ≤ gb200))
                   have n6_ := Aside0.mk ((by rw [hg]; exact Nat.ne_of_lt (blk_lt (g := gb196) (o := .cells #[.int .i64 x197000_2, .int .i64 x197001_2] 30 (0, 0)) (bk_ BK196)) : gb196 ≠ gb200))
                   have n7_ := Aside0.mk ((by rw [hg]; exact Nat.ne_of_gt (blk_lt (g := gb196) (o := .cells #[.int .i64 x197000_2, .int .i64 x197001_2] 30 (0, 0)) (bk_ BK196)) : gb200 ≠ gb196))
                   clear HO_6
                   clear BK196
                   clear HB
                   have HO_6 := n0_
                   have BK196 := n1_
                   have HB := n2_
                   have BK200 := n3_
                   have GW200 := n4_
                   have GE200 := n5_
                   have NB196_200 := n6_
                   have NB200_196 := n7_
                   clear n0_ n1_ n2_ n3_ n4_ n5_ n6_ n7_
                   clear hb hbox hg
                   refine hK.out _ _ ⟨(blk_cell BK196.out 0).trans rfl, (blk_cell BK196.out 1).trans rfl⟩ (fun hHeld => ?_)
                   clear hK K
                   refine norm_ (a' := ?_) ?_ ?_
                   rotate_left
                   ·
                    show Act.put _ (some 11) _ = _
                    simp only [Act.put, sa_, sb_, sc_, i64_w, i32_w]
                    rfl
                   refine one_ (i := 10) (N := some 49) #[true, true, true, true, true, true, true, true, true, true, true, false, false, true, false] rfl rfl (one_of HT_.out (by kernel_rfl)) (by decide) (fun K hK => ?_)
                   refine goes_ Tryd.func25 (by kernel_rfl) rfl #[.int .i64 (wrap64 ((wrap64 (100 * (rd l0 x33_2))) * x197000_2)), .int .i64 1000000] (by rfl) rfl rfl (by (try simp only [List.map_toArray, List.map_cons, List.map_nil]); first | done | rfl | (simp only [List.length_drop, List.length_take]; rfl)) ?_
                   with_reducible refine (impl_floor.calls (wrap64 ((wrap64 (100 * (rd l0 x33_2))) * x197000_2)) 1000000 t199 _ A18.out).mono ?_
                   rintro e w' ⟨rfl, ⟨nd, rfl⟩⟩
                   refine ⟨_, rfl, ?_⟩
                   refine hK.out _ _ ⟨(blk_cell BK196.out 0).trans rfl, (blk_cell BK196.out 1).trans rfl⟩ (fun hHeld => ?_)
                   clear hK K
                   refine norm_ (a' := ?_) ?_ ?_
                   rotate_left
                   ·
                    show Act.put _ (some 49) _ = _
                    simp only [Act.put, sa_, sb_, sc_, i64_w, i32_w]
                    rfl
                   refine pure_ (i := 11) (N := some 50) (v := ?_) (a' := ?_) #[true, true, true, true, true, true, true, true, true, true, true, true, false, true, false] rfl rfl (any_of HT_.out (by kernel_rfl)) (fun _ _ _ h => h) (Or.inl ⟨by rfl, ?_⟩) ?_ ?_
                   rotate_left
                   ·
                    intro w'
                    go_simp
                    with_reducible rfl
                   rotate_left
                   ·
                    simp only [Act.put, sa_, sb_, sc_, i64_w, i32_w]
                    rfl
                   refine pure_ (i := 12) (N := some 51) (v := ?_) (a' := ?_) #[true, true, true, true, true, true, true, true, true, true, true, true, true, true, false] rfl rfl (any_of HT_.out (by kernel_rfl)) (fun _ _ _ h => h) (Or.inl ⟨by rfl, ?_⟩) ?_ ?_
                   rotate_left
                   ·
                    intro w'
                    go_simp
                    with_reducible rfl
                   rotate_left
                   ·
                    simp only [Act.put, sa_, sb_, sc_, i64_w, i32_w]
                    rfl
                   exact norm_ (by simp only [putAll, Act.put, sa_, sb_, sc_]) (hCont (gb200) _ ⟨hHeld, (kr_ HO_6), (bk_ BK196), (bk_ BK200), GW200.out, GE200.out, NB196_200.out, NB200_196.out, (bl_ HB)⟩)
                 ·
                  skip
                  refine box_step ?hg (N := 11) ?hd (cs := #[.int .i64 0, .int .i64 0]) (t := 30) ?hr ?_; (case hd => rfl); (case hg => rfl); (case hr => first | (go_simp; done) | (go_simp; rfl))
                  intro gb200 hg w59 hbox hb
                  have n0_ := Aside0.mk (Kd.R_below (Kd.R_elderB (kr_ HO_6) gb200 (Nat.le_of_eq hg.symm)) hb)
                  have n1_ := Aside0.mk (blk_below (g := gb196) (o := .cells #[.int .i64 x197000_2, .int .i64 x197001_2] 30 (0, 0)) (bk_ BK196) hb)
                  have n2_ := Aside0.mk (below_step (bl_ HB) hb)
                  have n3_ := Aside0.mk (hbox)
                  have n4_ := Aside0.mk ((by rw [hg]; exact (below_size (bl_ HB)) : w.heap.size ≤ gb200))
                  have n5_ := Aside0.mk ((by rw [hg]; exact (below_size (bl_ HB)) : w.heap.size ≤ gb200))
                  have n6_ := Aside0.mk ((by rw [hg]; exact Nat.ne_of_lt (blk_lt (g := gb196) (o := .cells #[.int .i64 x197000_2, .int .i64 x197001_2] 30 (0, 0)) (bk_ BK196)) : gb196 ≠ gb200))
                  have n7_ := Aside0.mk ((by rw [hg]; exact Nat.ne_of_gt (blk_lt (g := gb196) (o := .cells #[.int .i64 x197000_2, .int .i64 x197001_2] 30 (0, 0)) (bk_ BK196)) : gb200 ≠ gb196))
                  clear HO_6
                  clear BK196
                  clear HB
                  have HO_6 := n0_
                  have BK196 := n1_
                  have HB := n2_
                  have BK200 := n3_
                  have GW200 := n4_
                  have GE200 := n5_
                  have NB196_200 := n6_
                  have NB200_196 := n7_
                  clear n0_ n1_ n2_ n3_ n4_ n5_ n6_ n7_
                  clear hb hbox hg
                  refine hK.out _ _ ⟨(blk_cell BK196.out 0).trans rfl, (blk_cell BK196.out 1).trans rfl⟩ (fun hHeld => ?_)
                  clear hK K
                  refine norm_ (a' := ?_) ?_ ?_
                  rotate_left
                  ·
                   show Act.put _ (some 11) _ = _
                   simp only [Act.put, sa_, sb_, sc_, i64_w, i32_w]
                   rfl
                  refine one_ (i := 4) (N := some 43) #[true, true, true, true, true, false, true, true, true, true, false, false, false, true, false] rfl rfl (one_of HT_.out (by kernel_rfl)) (by decide) (fun K hK => ?_)
                  refine goes_ Tryd.func24 (by kernel_rfl) rfl #[.int .i64 (wrap64 ((wrap64 (100 * (rd l0 x33_2))) * x197001_2)), .int .i64 1000000] (by rfl) rfl rfl (by (try simp only [List.map_toArray, List.map_cons, List.map_nil]); first | done | rfl | (simp only [List.length_drop, List.length_take]; rfl)) ?_
                  with_reducible refine (impl_ceil.calls (wrap64 ((wrap64 (100 * (rd l0 x33_2))) * x197001_2)) 1000000 t198 _ A17.out).mono ?_
                  rintro e w' ⟨rfl, ⟨nd, rfl⟩⟩
                  refine ⟨_, rfl, ?_⟩
                  refine hK.out _ _ ⟨(blk_cell BK196.out 0).trans rfl, (blk_cell BK196.out 1).trans rfl⟩ (fun hHeld => ?_)
                  clear hK K
                  refine norm_ (a' := ?_) ?_ ?_
                  rotate_left
                  ·
                   show Act.put _ (some 43) _ = _
                   simp only [Act.put, sa_, sb_, sc_, i64_w, i32_w]
                   rfl
                  refine pure_ (i := 5) (N := some 44) (v := ?_) (a' := ?_) #[true, true, true, true, true, true, true, true, true, true, false, false, false, true, false] rfl rfl (any_of HT_.out (by kernel_rfl)) (fun _ _ _ h => h) (Or.inl ⟨by rfl, ?_⟩) ?_ ?_
                  rotate_left
                  ·
                   intro w'
                   go_simp
                   with_reducible rfl
                  rotate_left
                  ·
                   simp only [Act.put, sa_, sb_, sc_, i64_w, i32_w]
                   rfl
                  refine one_ (i := 10) (N := some 49) #[true, true, true, true, true, true, true, true, true, true, true, false, false, true, false] rfl rfl (one_of HT_.out (by kernel_rfl)) (by decide) (fun K hK => ?_)
                  refine goes_ Tryd.func25 (by kernel_rfl) rfl #[.int .i64 (wrap64 ((wrap64 (100 * (rd l0 x33_2))) * x197000_2)), .int .i64 1000000] (by rfl) rfl rfl (by (try simp only [List.map_toArray, List.map_cons, List.map_nil]); first | done | rfl | (simp only [List.length_drop, List.length_take]; rfl)) ?_
                  with_reducible refine (impl_floor.calls (wrap64 ((wrap64 (100 * (rd l0 x33_2))) * x197000_2)) 1000000 t199 _ A18.out).mono ?_
                  rintro e w' ⟨rfl, ⟨nd, rfl⟩⟩
                  refine ⟨_, rfl, ?_⟩
                  refine hK.out _ _ ⟨(blk_cell BK196.out 0).trans rfl, (blk_cell BK196.out 1).trans rfl⟩ (fun hHeld => ?_)
                  clear hK K
                  refine norm_ (a' := ?_) ?_ ?_
                  rotate_left
                  ·
                   show Act.put _ (some 49) _ = _
                   simp only [Act.put, sa_, sb_, sc_, i64_w, i32_w]
                   rfl
                  refine pure_ (i := 11) (N := some 50) (v := ?_) (a' := ?_) #[true, true, true, true, true, true, true, true, true, true, true, true, false, true, false] rfl rfl (any_of HT_.out (by kernel_rfl)) (fun _ _ _ h => h) (Or.inl ⟨by rfl, ?_⟩) ?_ ?_
                  rotate_left
                  ·
                   intro w'
                   go_simp
                   with_reducible rfl
                  rotate_left
                  ·
                   simp only [Act.put, sa_, sb_, sc_, i64_w, i32_w]
                   rfl
                  refine pure_ (i := 12) (N := some 51) (v := ?_) (a' := ?_) #[true, true, true, true, true, true, true, true, true, true, true, true, true, true, false] rfl rfl (any_of HT_.out (by kernel_rfl)) (fun _ _ _ h => h) (Or.inl ⟨by rfl, ?_⟩) ?_ ?_
                  rotate_left
                  ·
                   intro w'
                   go_simp
                   with_reducible rfl
                  rotate_left
                  ·
                   simp only [Act.put, sa_, sb_, sc_, i64_w, i32_w]
                   rfl
                  exact norm_ (by simp only [putAll, Act.put, sa_, sb_, sc_]) (hCont (gb200) _ ⟨hHeld, (kr_ HO_6), (bk_ BK196), (bk_ BK200), GW200.out, GE200.out, NB196_200.out, NB200_196.out, (bl_ HB)⟩)
                rintro gb200 w60 ⟨hS_, h0_, h1_, h2_, h3_, h4_, h5_, h6_, h7_⟩
                have n0_ : Aside0 (Kd.R k30 30 w60 w.heap.size (fun k_ => k_ ≠ gb196 ∧ k_ ≠ gb200) u6 x6_2) := ⟨h0_⟩
                have n1_ : Aside0 (w60.heap[gb196]? = some (.cells #[.int .i64 x197000_2, .int .i64 x197001_2] 30 (0, 0))) := ⟨h1_⟩
                have n2_ : Aside0 (w60.heap[gb200]? = some (.cells #[.int .i64 0, .int .i64 0] 30 (0, 0))) := ⟨h2_⟩
                have n3_ : Aside0 (w.heap.size ≤ gb200) := ⟨h3_⟩
                have n4_ : Aside0 (w.heap.size ≤ gb200) := ⟨h4_⟩
                have n5_ : Aside0 (gb196 ≠ gb200) := ⟨h5_⟩
                have n6_ : Aside0 (gb200 ≠ gb196) := ⟨h6_⟩
                have n7_ : Aside0 (Below w.heap.size w w60) := ⟨h7_⟩
                clear HO_6
                clear BK196
                clear HB
                clear h0_ h1_ h2_ h3_ h4_ h5_ h6_ h7_
                have HO_6 := n0_
                have BK196 := n1_
                have BK200 := n2_
                have GW200 := n3_
                have GE200 := n4_
                have NB196_200 := n5_
                have NB200_196 := n6_
                have HB := n7_
                clear n0_ n1_ n2_ n3_ n4_ n5_ n6_ n7_
                have hHeld : w60.cell? ⟨gb196, 0, none⟩ = some (.int .i64 x197000_2) ∧ w60.cell? ⟨gb196, 1, none⟩ = some (.int .i64 x197001_2) := hS_
                refine norm_ (a' := ?_) ?_ ?_
                rotate_left
                ·
                 simp only [putAll, Act.put, sa_, sb_, sc_]
                 rfl
                refine one_ (i := 14) (N := none) #[true, true, true, true, true, true, true, true, true, true, true, true, true, true, true] rfl rfl (one_of HT_.out (by kernel_rfl)) (by decide) (fun K hK => ?_)
                have hs61 : w60.cell? ⟨gb200, 0, none⟩ = some (.int .i64 0) := (blk_cell BK200.out 0).trans rfl
                have hfs61 := blk_frozen BK200.out 0
                have hns61_0 := NB196_200.out
                have hms61_0 := NB200_196.out
                have hs62 : w60.cell? ⟨gb200, 1, none⟩ = some (.int .i64 0) := (blk_cell BK200.out 1).trans rfl
                have hfs62 := blk_frozen BK200.out 1
                have hns62_0 := NB196_200.out
                have hms62_0 := NB200_196.out
                refine skip_ (w1 := ?_) (by rfl) rfl ?_ ?_
                rotate_left
                ·
                 go_simp
                 rfl
                refine hK.out _ _ ⟨((cell_far (p := ⟨gb200, _, none⟩) NB196_200.out _).trans (((cell_far (p := ⟨gb200, _, none⟩) NB196_200.out _).trans (hHeld.1)))), ((cell_far (p := ⟨gb200, _, none⟩) NB196_200.out _).trans (((cell_far (p := ⟨gb200, _, none⟩) NB196_200.out _).trans (hHeld.2))))⟩ (fun hHeld => ?_)
                clear hK K
                refine done_ (done_of HT_.out (by kernel_rfl)) ?_
                try go_wp2
                have n0_ : Aside0 (Kd.R k30 30 ((w60.setCell ⟨gb200, 0, none⟩ (.int .i64 (wrap64 (1000000 - t198)))).setCell ⟨gb200, 1, none⟩ (.int .i64 (wrap64 (1000000 - t199)))) w.heap.size (fun k_ => k_ ≠ gb196 ∧ k_ ≠ gb200) u6 x6_2) := ⟨by (with_reducible repeat (first | apply Kd.R_alloc | apply Kd.R_drewN | apply Kd.R_drew)); exact Kd.R_mono (Kd.R_far (p := ⟨gb200, 1, none⟩) (Kd.R_far (p := ⟨gb200, 0, none⟩) (Kd.R_mono HO_6.out (fun k_ hk => (⟨hk, hk.2⟩ : _ ∧ k_ ≠ gb200))) (fun _ hk => hk.2) (.int .i64 (wrap64 (1000000 - t198)))) (fun _ hk => hk.2) (.int .i64 (wrap64 (1000000 - t199)))) (fun _ hk => ⟨hk.1.1, hk.1.2⟩)⟩
                have n1_ : Aside0 (((w60.setCell ⟨gb200, 0, none⟩ (.int .i64 (wrap64 (1000000 - t198)))).setCell ⟨gb200, 1, none⟩ (.int .i64 (wrap64 (1000000 - t199)))).heap[gb196]? = some (.cells #[.int .i64 x197000_2, .int .i64 x197001_2] 30 (0, 0))) := ⟨by (with_reducible repeat (first | refine blk_drewN ?_ _ | refine blk_drew ?_ | refine blk_alloc ?_ _)); refine blk_far ?_ NB196_200.out _; (with_reducible repeat (first | refine blk_drewN ?_ _ | refine blk_drew ?_ | refine blk_alloc ?_ _)); refine blk_far ?_ NB196_200.out _; (with_reducible repeat (first | refine blk_drewN ?_ _ | refine blk_drew ?_ | refine blk_alloc ?_ _)); exact BK196.out⟩
                have n2_ : Aside0 (((w60.setCell ⟨gb200, 0, none⟩ (.int .i64 (wrap64 (1000000 - t198)))).setCell ⟨gb200, 1, none⟩ (.int .i64 (wrap64 (1000000 - t199)))).heap[gb200]? = some (.cells #[.int .i64 (wrap64 (1000000 - t198)), .int .i64 (wrap64 (1000000 - t199))] 30 (0, 0))) := ⟨by (with_reducible repeat (first | refine blk_drewN ?_ _ | refine blk_drew ?_ | refine blk_alloc ?_ _)); refine blk_put (cs := #[.int .i64 (wrap64 (1000000 - t198)), .int .i64 0]) ?_ 1 _ rfl; (with_reducible repeat (first | refine blk_drewN ?_ _ | refine blk_drew ?_ | refine blk_alloc ?_ _)); refine blk_put (cs := #[.int .i64 0, .int .i64 0]) ?_ 0 _ rfl; (with_reducible repeat (first | refine blk_drewN ?_ _ | refine blk_drew ?_ | refine blk_alloc ?_ _)); exact BK200.out⟩
                have n3_ : Aside0 (Below w.heap.size w ((w60.setCell ⟨gb200, 0, none⟩ (.int .i64 (wrap64 (1000000 - t198)))).setCell ⟨gb200, 1, none⟩ (.int .i64 (wrap64 (1000000 - t199))))) := ⟨by repeat (first | (with_reducible first | exact HB.out | apply below_alloc | apply pw_below_drewN | apply below_drew1 | refine below_set ?_ GE196.out | refine below_set ?_ GE200.out) | exact HB.out)⟩
                (try clear HO_6)
                (try clear BK196)
                (try clear BK200)
                (try clear HB)
                generalize ((w60.setCell ⟨gb200, 0, none⟩ (.int .i64 (wrap64 (1000000 - t198)))).setCell ⟨gb200, 1, none⟩ (.int .i64 (wrap64 (1000000 - t199)))) = w63 at n0_ n1_ n2_ n3_ ⊢
                have HO_6 := n0_
                have BK196 := n1_
                have BK200 := n2_
                have HB := n3_
                clear n0_ n1_ n2_ n3_
                have n0_ := Aside0.mk (Kd.R_drew HO_6.out)
                have n1_ := Aside0.mk (blk_drew BK196.out)
                have n2_ := Aside0.mk (blk_drew BK200.out)
                have n3_ := Aside0.mk (below_drew1 HB.out)
                clear HO_6
                clear BK196
                clear BK200
                clear HB
                have HO_6 := n0_
                have BK196 := n1_
                have BK200 := n2_
                have HB := n3_
                clear n0_ n1_ n2_ n3_
                refine start_ (n := 11) (S := fun w' => w'.cell? ⟨gb200, 0, none⟩ = some (.int .i64 (wrap64 (1000000 - t198))) ∧ w'.cell? ⟨gb200, 1, none⟩ = some (.int .i64 (wrap64 (1000000 - t199)))) (ds := []) #[false, false, false, false, false, false, false, false, false, false, false] (by kernel_rfl) rfl rfl ⟨(blk_cell BK200.out 0).trans rfl, (blk_cell BK200.out 1).trans rfl⟩ (fun hHeld => ?_); refine with_tabW impl_CurveOf.tab16 impl_CurveOf.bits16 (fun HT_ HW_ => ?_)
                generalize w63.drew = w64 at HO_6 BK196 BK200 HB hHeld ⊢
                refine pure_ (i := 1) (N := some 54) (v := ?_) (a' := ?_) #[false, true, false, false, false, false, false, false, false, false, false] rfl rfl (any_of HT_.out (by kernel_rfl)) (fun _ _ _ h => h) (Or.inl ⟨by rfl, ?_⟩) ?_ ?_
                rotate_left
                ·
                 intro w'
                 go_simp
                 with_reducible rfl
                rotate_left
                ·
                 simp only [Act.put, sa_, sb_, sc_, i64_w, i32_w]
                 rfl
                refine pure_ (i := 2) (N := some 55) (v := ?_) (a' := ?_) #[false, true, true, false, false, false, false, false, false, false, false] rfl rfl (any_of HT_.out (by kernel_rfl)) (fun _ _ _ h => h) (Or.inl ⟨by rfl, ?_⟩) ?_ ?_
                rotate_left
                ·
                 intro w'
                 go_simp
                 with_reducible rfl
                rotate_left
                ·
                 simp only [Act.put, sa_, sb_, sc_, i64_w, i32_w]
                 rfl
                refine take_ (i := 0) (N := some 53) (v := ?_) (a' := ?_) #[true, true, true, false, false, false, false, false, false, false, false] rfl rfl (take_ofW HT_.out HW_.out (by kernel_rfl)) (fun _ _ _ h => h) (Or.inl ⟨by rfl, ?_⟩) hHeld ?_ ?_
                rotate_left
                ·
                 rintro w' ⟨s0, s1⟩
                 go_simp
                 with_reducible rfl
                rotate_left
                ·
                 simp only [Act.put, sa_, sb_, sc_, i64_w, i32_w]
                 rfl
                refine join_ (σ := Nat) 2 #[true, true, true, true, true, true, true, true, true, false, false] (fun s_ => [(56, .agg #[.int .i64 t201, .int .i64 t202]), (57, .tuple #[.agg #[.int .i64 t203, .int .i64 t204], .nilIface]), (12, .pointer (some ⟨s_, 0, none⟩)), (52, .tuple #[.agg #[.int .i64 t203, .int .i64 t204], .nilIface]), (58, .agg #[.int .i64 t203, .int .i64 t204]), (59, .nilIface)]) (fun s_ w' => (w'.cell? ⟨gb200, 0, none⟩ = some (.int .i64 (wrap64 (1000000 - t198))) ∧ w'.cell? ⟨gb200, 1, none⟩ = some (.int .i64 (wrap64 (1000000 - t199)))) ∧ (Kd.R k30 30 w' w.heap.size (fun k_ => k_ ≠ gb196 ∧ k_ ≠ gb200 ∧ k_ ≠ s_) u6 x6_2) ∧ (w'.heap[gb196]? = some (.cells #[.int .i64 x197000_2, .int .i64 x197001_2] 30 (0, 0))) ∧ (w'.heap[gb200]? = some (.cells #[.int .i64 (wrap64 (1000000 - t198)), .int .i64 (wrap64 (1000000 - t199))] 30 (0, 0))) ∧ (w'.heap[s_]? = some (.cells #[.int .i64 0, .int .i64 0] 30 (0, 0))) ∧ (w.heap.size ≤ s_) ∧ (w.heap.size ≤ s_) ∧ (gb196 ≠ s_) ∧ (s_ ≠ gb196) ∧ (gb200 ≠ s_) ∧ (s_ ≠ gb200) ∧ (Below w.heap.size w w')) ?_ ?_
                rotate_left
                ·
                 intro hCont
                 refine two_ (i := 3) (j := 8) (Ni := some 56) (Nj := some 12) #[true, true, true, true, false, false, false, false, false, false, false] #[true, true, true, false, false, false, false, false, true, false, false] rfl rfl rfl rfl (two_of HT_.out (by kernel_rfl)) (by decide) (by decide) (fun K hK => ?_) (fun K hK => ?_)
                 ·
                  skip
                  refine goes_ Tryd.func27 (by kernel_rfl) rfl #[.int .i64 (wrap64 (1000000 + (wrap64 (100 * (rd l0 x33_2)))))] (by rfl) rfl rfl (by (try simp only [List.map_toArray, List.map_cons, List.map_nil]); first | done | rfl | (simp only [List.length_drop, List.length_take]; rfl)) ?_
                  with_reducible refine (impl_exactly.calls (wrap64 (1000000 + (wrap64 (100 * (rd l0 x33_2))))) t201 t202 _ A19.out).mono ?_
                  rintro e w65 ⟨rfl, hb⟩
                  refine ⟨_, rfl, ?_⟩
                  have n0_ := Aside0.mk (Kd.R_below (kr_ HO_6) hb)
                  have n1_ := Aside0.mk (blk_below (g := gb196) (o := .cells #[.int .i64 x197000_2, .int .i64 x197001_2] 30 (0, 0)) (bk_ BK196) hb)
                  have n2_ := Aside0.mk (blk_below (g := gb200) (o := .cells #[.int .i64 (wrap64 (1000000 - t198)), .int .i64 (wrap64 (1000000 - t199))] 30 (0, 0)) (bk_ BK200) hb)
                  have n3_ := Aside0.mk (below_step (bl_ HB) hb)
                  clear HO_6
                  clear BK196
                  clear BK200
                  clear HB
                  have HO_6 := n0_
                  have BK196 := n1_
                  have BK200 := n2_
                  have HB := n3_
                  clear n0_ n1_ n2_ n3_
                  (try clear hb)
                  (try clear hb2)
                  (try clear hk)
                  (try clear hi)
                  refine hK.out _ _ ⟨(blk_cell BK200.out 0).trans rfl, (blk_cell BK200.out 1).trans rfl⟩ (fun hHeld => ?_)
                  clear hK K
                  refine norm_ (a' := ?_) ?_ ?_
                  rotate_left
                  ·
                   show Act.put _ (some 56) _ = _
                   simp only [Act.put, sa_, sb_, sc_, i64_w, i32_w]
                   rfl
                  refine two_ (i := 4) (j := 8) (Ni := some 57) (Nj := some 12) #[true, true, true, true, true, false, false, false, false, false, false] #[true, true, true, true, false, false, false, false, true, false, false] rfl rfl rfl rfl (two_of HT_.out (by kernel_rfl)) (by decide) (by decide) (fun K hK => ?_) (fun K hK => ?_)
                  ·
                   skip
                   refine goes_ Tryd.func26 (by kernel_rfl) rfl #[.agg #[.int .i64 (wrap64 (1000000 - t198)), .int .i64 (wrap64 (1000000 - t199))], .agg #[.int .i64 t201, .int .i64 t202]] (by rfl) rfl rfl (by (try simp only [List.map_toArray, List.map_cons, List.map_nil]); first | done | rfl | (simp only [List.length_drop, List.length_take]; rfl)) ?_
                   with_reducible refine (impl_Range_through.calls (wrap64 (1000000 - t198)) (wrap64 (1000000 - t199)) t201 t202 t203 t204 none _ ?side1 A20.out).mono ?_
                   (case side1 => first | exact HTab.out | exact Tab.below HTab.out (bl_ HB))
                   rintro e w66 ⟨rfl, hb⟩
                   refine ⟨_, rfl, ?_⟩
                   have n0_ := Aside0.mk (Kd.R_below (kr_ HO_6) hb)
                   have n1_ := Aside0.mk (blk_below (g := gb196) (o := .cells #[.int .i64 x197000_2, .int .i64 x197001_2] 30 (0, 0)) (bk_ BK196) hb)
                   have n2_ := Aside0.mk (blk_below (g := gb200) (o := .cells #[.int .i64 (wrap64 (1000000 - t198)), .int .i64 (wrap64 (1000000 - t199))] 30 (0, 0)) (bk_ BK200) hb)
                   have n3_ := Aside0.mk (below_step (bl_ HB) hb)
                   clear HO_6
                   clear BK196
                   clear BK200
                   clear HB
                   have HO_6 := n0_
                   have BK196 := n1_
                   have BK200 := n2_
                   have HB := n3_
                   clear n0_ n1_ n2_ n3_
                   (try clear hb)
                   (try clear hb2)
                   (try clear hk)
                   (try clear hi)
                   (try simp only [errW_none, errW_some])
                   refine hK.out _ _ ⟨(blk_cell BK200.out 0).trans rfl, (blk_cell BK200.out 1).trans rfl⟩ (fun hHeld => ?_)
                   clear hK K
                   refine norm_ (a' := ?_) ?_ ?_
                   rotate_left
                   ·
                    show Act.put _ (some 57) _ = _
                    simp only [Act.put, sa_, sb_, sc_, i64_w, i32_w]
                    rfl
                   refine pure_ (i := 5) (N := some 52) (v := ?_) (a' := ?_) #[true, true, true, true, true, true, false, false, false, false, false] rfl rfl (any_of HT_.out (by kernel_rfl)) (fun _ _ _ h => h) (Or.inl ⟨by rfl, ?_⟩) ?_ ?_
                   rotate_left
                   ·
                    intro w'
                    go_simp
                    with_reducible rfl
                   rotate_left
                   ·
                    simp only [Act.put, sa_, sb_, sc_, i64_w, i32_w]
                    rfl
                   refine pure_ (i := 6) (N := some 58) (v := ?_) (a' := ?_) #[true, true, true, true, true, true, true, false, false, false, false] rfl rfl (any_of HT_.out (by kernel_rfl)) (fun _ _ _ h => h) (Or.inl ⟨by rfl, ?_⟩) ?_ ?_
                   rotate_left
                   ·
                    intro w'
                    go_simp
                    with_reducible rfl
                   rotate_left
                   ·
                    simp only [Act.put, sa_, sb_, sc_, i64_w, i32_w]
                    rfl
                   refine pure_ (i := 7) (N := some 59) (v := ?_) (a' := ?_) #[true, true, true, true, true, true, true, true, false, false, false] rfl rfl (any_of HT_.out (by kernel_rfl)) (fun _ _ _ h => h) (Or.inl ⟨by rfl, ?_⟩) ?_ ?_
                   rotate_left
                   ·
                    intro w'
                    go_simp
                    with_reducible rfl
                   rotate_left
                   ·
                    simp only [Act.put, sa_, sb_, sc_, i64_w, i32_w]
                    rfl
                   refine one_ (i := 8) (N := some 12) #[true, true, true, true, true, true, true, true, true, false, false] rfl rfl (one_of HT_.out (by kernel_rfl)) (by decide) (fun K hK => ?_)
                   refine box_step ?hg (N := 12) ?hd (cs := #[.int .i64 0, .int .i64 0]) (t := 30) ?hr ?_; (case hd => rfl); (case hg => rfl); (case hr => first | (go_simp; done) | (go_simp; rfl))
                   intro gb206 hg w67 hbox hb
                   have n0_ := Aside0.mk (Kd.R_below (Kd.R_elderB (kr_ HO_6) gb206 (Nat.le_of_eq hg.symm)) hb)
                   have n1_ := Aside0.mk (blk_below (g := gb196) (o := .cells #[.int .i64 x197000_2, .int .i64 x197001_2] 30 (0, 0)) (bk_ BK196) hb)
                   have n2_ := Aside0.mk (blk_below (g := gb200) (o := .cells #[.int .i64 (wrap64 (1000000 - t198)), .int .i64 (wrap64 (1000000 - t199))] 30 (0, 0)) (bk_ BK200) hb)
                   have n3_ := Aside0.mk (below_step (bl_ HB) hb)
                   have n4_ := Aside0.mk (hbox)
                   have n5_ := Aside0.mk ((by rw [hg]; exact (below_size (bl_ HB)) : w.heap.size ≤ gb206))
                   have n6_ := Aside0.mk ((by rw [hg]; exact (below_size (bl_ HB)) : w.heap.size ≤ gb206))
                   have n7_ := Aside0.mk ((by rw [hg]; exact Nat.ne_of_lt (blk_lt (g := gb196) (o := .cells #[.int .i64 x197000_2, .int .i64 x197001_2] 30 (0, 0)) (bk_ BK196)) : gb196 ≠ gb206))
                   have n8_ := Aside0.mk ((by rw [hg]; exact Nat.ne_of_gt (blk_lt (g := gb196) (o := .cells #[.int .i64 x197000_2, .int .i64 x197001_2] 30 (0, 0)) (bk_ BK196)) : gb206 ≠ gb196))
                   have n9_ := Aside0.mk ((by rw [hg]; exact Nat.ne_of_lt (blk_lt (g := gb200) (o := .cells #[.int .i64 (wrap64 (1000000 - t198)), .int .i64 (wrap64 (1000000 - t199))] 30 (0, 0)) (bk_ BK200)) : gb200 ≠ gb206))
                   have n10_ := Aside0.mk ((by rw [hg]; exact Nat.ne_of_gt (blk_lt (g := gb200) (o := .cells #[.int .i64 (wrap64 (1000000 - t198)), .int .i64 (wrap64 (1000000 - t199))] 30 (0, 0)) (bk_ BK200)) : gb206 ≠ gb200))
                   clear HO_6
                   clear BK196
                   clear BK200
                   clear HB
                   have HO_6 := n0_
                   have BK196 := n1_
                   have BK200 := n2_
                   have HB := n3_
                   have BK206 := n4_
                   have GW206 := n5_
                   have GE206 := n6_
                   have NB196_206 := n7_
                   have NB206_196 := n8_
                   have NB200_206 := n9_
                   have NB206_200 := n10_
                   clear n0_ n1_ n2_ n3_ n4_ n5_ n6_ n7_ n8_ n9_ n10_
                   clear hb hbox hg
                   refine hK.out _ _ ⟨(blk_cell BK200.out 0).trans rfl, (blk_cell BK200.out 1).trans rfl⟩ (fun hHeld => ?_)
                   clear hK K
                   refine norm_ (a' := ?_) ?_ ?_
                   rotate_left
                   ·
                    show Act.put _ (some 12) _ = _
                    simp only [Act.put, sa_, sb_, sc_, i64_w, i32_w]
                    rfl
                   exact norm_ (by simp only [putAll, Act.put, sa_, sb_, sc_]) (hCont (gb206) _ ⟨hHeld, (by (with_reducible repeat (first | apply Kd.R_alloc | apply Kd.R_drewN | apply Kd.R_drew)); exact Kd.R_mono HO_6.out (fun _ hk => ⟨hk.1.1, ⟨hk.1.2, hk.2⟩⟩)), (bk_ BK196), (bk_ BK200), (bk_ BK206), GW206.out, GE206.out, NB196_206.out, NB206_196.out, NB200_206.out, NB206_200.out, (bl_ HB)⟩)
                  ·
                   skip
                   refine box_step ?hg (N := 12) ?hd (cs := #[.int .i64 0, .int .i64 0]) (t := 30) ?hr ?_; (case hd => rfl); (case hg => rfl); (case hr => first | (go_simp; done) | (go_simp; rfl))
                   intro gb206 hg w66 hbox hb
                   have n0_ := Aside0.mk (Kd.R_below (Kd.R_elderB (kr_ HO_6) gb206 (Nat.le_of_eq hg.symm)) hb)
                   have n1_ := Aside0.mk (blk_below (g := gb196) (o := .cells #[.int .i64 x197000_2, .int .i64 x197001_2] 30 (0, 0)) (bk_ BK196) hb)
                   have n2_ := Aside0.mk (blk_below (g := gb200) (o := .cells #[.int .i64 (wrap64 (1000000 - t198)), .int .i64 (wrap64 (1000000 - t199))] 30 (0, 0)) (bk_ BK200) hb)
                   have n3_ := Aside0.mk (below_step (bl_ HB) hb)
                   have n4_ := Aside0.mk (hbox)
                   have n5_ := Aside0.mk ((by rw [hg]; exact (below_size (bl_ HB)) : w.heap.size ≤ gb206))
                   have n6_ := Aside0.mk ((by rw [hg]; exact (below_size (bl_ HB)) : w.heap.size ≤ gb206))
                   have n7_ := Aside0.mk ((by rw [hg]; exact Nat.ne_of_lt (blk_lt (g := gb196) (o := .cells #[.int .i64 x197000_2, .int .i64 x197001_2] 30 (0, 0)) (bk_ BK196)) : gb196 ≠ gb206))
                   have n8_ := Aside0.mk ((by rw [hg]; exact Nat.ne_of_gt (blk_lt (g := gb196) (o := .cells #[.int .i64 x197000_2, .int .i64 x197001_2] 30 (0, 0)) (bk_ BK196)) : gb206 ≠ gb196))
                   have n9_ := Aside0.mk ((by rw [hg]; exact Nat.ne_of_lt (blk_lt (g := gb200) (o := .cells #[.int .i64 (wrap64 (1000000 - t198)), .int .i64 (wrap64 (1000000 - t199))] 30 (0, 0)) (bk_ BK200)) : gb200 ≠ gb206))
                   have n10_ := Aside0.mk ((by rw [hg]; exact Nat.ne_of_gt (blk_lt (g := gb200) (o := .cells #[.int .i64 (wrap64 (1000000 - t198)), .int .i64 (wrap64 (1000000 - t199))] 30 (0, 0)) (bk_ BK200)) : gb206 ≠ gb200))
                   clear HO_6
                   clear BK196
                   clear BK200
                   clear HB
                   have HO_6 := n0_
                   have BK196 := n1_
                   have BK200 := n2_
                   have HB := n3_
                   have BK206 := n4_
                   have GW206 := n5_
                   have GE206 := n6_
                   have NB196_206 := n7_
                   have NB206_196 := n8_
                   have NB200_206 := n9_
                   have NB206_200 := n10_
                   clear n0_ n1_ n2_ n3_ n4_ n5_ n6_ n7_ n8_ n9_ n10_
                   clear hb hbox hg
                   refine hK.out _ _ ⟨(blk_cell BK200.out 0).trans rfl, (blk_cell BK200.out 1).trans rfl⟩ (fun hHeld => ?_)
                   clear hK K
                   refine norm_ (a' := ?_) ?_ ?_
                   rotate_left
                   ·
                    show Act.put _ (some 12) _ = _
                    simp only [Act.put, sa_, sb_, sc_, i64_w, i32_w]
                    rfl
                   refine one_ (i := 4) (N := some 57) #[true, true, true, true, true, false, false, false, true, false, false] rfl rfl (one_of HT_.out (by kernel_rfl)) (by decide) (fun K hK => ?_)
                   refine goes_ Tryd.func26 (by kernel_rfl) rfl #[.agg #[.int .i64 (wrap64 (1000000 - t198)), .int .i64 (wrap64 (1000000 - t199))], .agg #[.int .i64 t201, .int .i64 t202]] (by rfl) rfl rfl (by (try simp only [List.map_toArray, List.map_cons, List.map_nil]); first | done | rfl | (simp only [List.length_drop, List.length_take]; rfl)) ?_
                   with_reducible refine (impl_Range_through.calls (wrap64 (1000000 - t198)) (wrap64 (1000000 - t199)) t201 t202 t203 t204 none _ ?side1 A20.out).mono ?_
                   (case side1 => first | exact HTab.out | exact Tab.below HTab.out (bl_ HB))
                   rintro e w67 ⟨rfl, hb⟩
                   refine ⟨_, rfl, ?_⟩
                   have n0_ := Aside0.mk (Kd.R_below (kr_ HO_6) hb)
                   have n1_ := Aside0.mk (blk_below (g := gb196) (o := .cells #[.int .i64 x197000_2, .int .i64 x197001_2] 30 (0, 0)) (bk_ BK196) hb)
                   have n2_ := Aside0.mk (blk_below (g := gb200) (o := .cells #[.int .i64 (wrap64 (1000000 - t198)), .int .i64 (wrap64 (1000000 - t199))] 30 (0, 0)) (bk_ BK200) hb)
                   have n3_ := Aside0.mk (blk_below (g := gb206) (o := .cells #[.int .i64 0, .int .i64 0] 30 (0, 0)) (bk_ BK206) hb)
                   have n4_ := Aside0.mk (below_step (bl_ HB) hb)
                   clear HO_6
                   clear BK196
                   clear BK200
                   clear BK206
                   clear HB
                   have HO_6 := n0_
                   have BK196 := n1_
                   have BK200 := n2_
                   have BK206 := n3_
                   have HB := n4_
                   clear n0_ n1_ n2_ n3_ n4_
                   (try clear hb)
                   (try clear hb2)
                   (try clear hk)
                   (try clear hi)
                   (try simp only [errW_none, errW_some])
                   refine hK.out _ _ ⟨(blk_cell BK200.out 0).trans rfl, (blk_cell BK200.out 1).trans rfl⟩ (fun hHeld => ?_)
                   clear hK K
                   refine norm_ (a' := ?_) ?_ ?_
                   rotate_left
                   ·
                    show Act.put _ (some 57) _ = _
                    simp only [Act.put, sa_, sb_, sc_, i64_w, i32_w]
                    rfl
                   refine pure_ (i := 5) (N := some 52) (v := ?_) (a' := ?_) #[true, true, true, true, true, true, false, false, true, false, false] rfl rfl (any_of HT_.out (by kernel_rfl)) (fun _ _ _ h => h) (Or.inl ⟨by rfl, ?_⟩) ?_ ?_
                   rotate_left
                   ·
                    intro w'
                    go_simp
                    with_reducible rfl
                   rotate_left
                   ·
                    simp only [Act.put, sa_, sb_, sc_, i64_w, i32_w]
                    rfl
                   refine pure_ (i := 6) (N := some 58) (v := ?_) (a' := ?_) #[true, true, true, true, true, true, true, false, true, false, false] rfl rfl (any_of HT_.out (by kernel_rfl)) (fun _ _ _ h => h) (Or.inl ⟨by rfl, ?_⟩) ?_ ?_
                   rotate_left
                   ·
                    intro w'
                    go_simp
                    with_reducible rfl
                   rotate_left
                   ·
                    simp only [Act.put, sa_, sb_, sc_, i64_w, i32_w]
                    rfl
                   refine pure_ (i := 7) (N := some 59) (v := ?_) (a' := ?_) #[true, true, true, true, true, true, true, true, true, false, false] rfl rfl (any_of HT_.out (by kernel_rfl)) (fun _ _ _ h => h) (Or.inl ⟨by rfl, ?_⟩) ?_ ?_
                   rotate_left
                   ·
                    intro w'
                    go_simp
                    with_reducible rfl
                   rotate_left
                   ·
                    simp only [Act.put, sa_, sb_, sc_, i64_w, i32_w]
                    rfl
                   exact norm_ (by simp only [putAll, Act.put, sa_, sb_, sc_]) (hCont (gb206) _ ⟨hHeld, (by (with_reducible repeat (first | apply Kd.R_alloc | apply Kd.R_drewN | apply Kd.R_drew)); exact Kd.R_mono HO_6.out (fun _ hk => ⟨hk.1.1, ⟨hk.1.2, hk.2⟩⟩)), (bk_ BK196), (bk_ BK200), (bk_ BK206), GW206.out, GE206.out, NB196_206.out, NB206_196.out, NB200_206.out, NB206_200.out, (bl_ HB)⟩)
                 ·
                  skip
                  refine box_step ?hg (N := 12) ?hd (cs := #[.int .i64 0, .int .i64 0]) (t := 30) ?hr ?_; (case hd => rfl); (case hg => rfl); (case hr => first | (go_simp; done) | (go_simp; rfl))
                  intro gb206 hg w65 hbox hb
                  have n0_ := Aside0.mk (Kd.R_below (Kd.R_elderB (kr_ HO_6) gb206 (Nat.le_of_eq hg.symm)) hb)
                  have n1_ := Aside0.mk (blk_below (g := gb196) (o := .cells #[.int .i64 x197000_2, .int .i64 x197001_2] 30 (0, 0)) (bk_ BK196) hb)
                  have n2_ := Aside0.mk (blk_below (g := gb200) (o := .cells #[.int .i64 (wrap64 (1000000 - t198)), .int .i64 (wrap64 (1000000 - t199))] 30 (0, 0)) (bk_ BK200) hb)
                  have n3_ := Aside0.mk (below_step (bl_ HB) hb)
                  have n4_ := Aside0.mk (hbox)
                  have n5_ := Aside0.mk ((by rw [hg]; exact (below_size (bl_ HB)) : w.heap.size ≤ gb206))
                  have n6_ := Aside0.mk ((by rw [hg]; exact (below_size (bl_ HB)) : w.heap.size ≤ gb206))
                  have n7_ := Aside0.mk ((by rw [hg]; exact Nat.ne_of_lt (blk_lt (g := gb196) (o := .cells #[.int .i64 x197000_2, .int .i64 x197001_2] 30 (0, 0)) (bk_ BK196)) : gb196 ≠ gb206))
                  have n8_ := Aside0.mk ((by rw [hg]; exact Nat.ne_of_gt (blk_lt (g := gb196) (o := .cells #[.int .i64 x197000_2, .int .i64 x197001_2] 30 (0, 0)) (bk_ BK196)) : gb206 ≠ gb196))
                  have n9_ := Aside0.mk ((by rw [hg]; exact Nat.ne_of_lt (blk_lt (g := gb200) (o := .cells #[.int .i64 (wrap64 (1000000 - t198)), .int .i64 (wrap64 (1000000 - t199))] 30 (0, 0)) (bk_ BK200)) : gb200 ≠ gb206))
                  have n10_ := Aside0.mk ((by rw [hg]; exact Nat.ne_of_gt (blk_lt (g := gb200) (o := .cells #[.int .i64 (wrap64 (1000000 - t198)), .int .i64 (wrap64 (1000000 - t199))] 30 (0, 0)) (bk_ BK200)) : gb206 ≠ gb200))
                  clear HO_6
                  clear BK196
                  clear BK200
                  clear HB
                  have HO_6 := n0_
                  have BK196 := n1_
                  have BK200 := n2_
                  have HB := n3_
                  have BK206 := n4_
                  have GW206 := n5_
                  have GE206 := n6_
                  have NB196_206 := n7_
                  have NB206_196 := n8_
                  have NB200_206 := n9_
                  have NB206_200 := n10_
                  clear n0_ n1_ n2_ n3_ n4_ n5_ n6_ n7_ n8_ n9_ n10_
                  clear hb hbox hg
                  refine hK.out _ _ ⟨(blk_cell BK200.out 0).trans rfl, (blk_cell BK200.out 1).trans rfl⟩ (fun hHeld => ?_)
                  clear hK K
                  refine norm_ (a' := ?_) ?_ ?_
                  rotate_left
                  ·
                   show Act.put _ (some 12) _ = _
                   simp only [Act.put, sa_, sb_, sc_, i64_w, i32_w]
                   rfl
                  refine one_ (i := 3) (N := some 56) #[true, true, true, true, false, false, false, false, true, false, false] rfl rfl (one_of HT_.out (by kernel_rfl)) (by decide) (fun K hK => ?_)
                  refine goes_ Tryd.func27 (by kernel_rfl) rfl #[.int .i64 (wrap64 (1000000 + (wrap64 (100 * (rd l0 x33_2)))))] (by rfl) rfl rfl (by (try simp only [List.map_toArray, List.map_cons, List.map_nil]); first | done | rfl | (simp only [List.length_drop, List.length_take]; rfl)) ?_
                  with_reducible refine (impl_exactly.calls (wrap64 (1000000 + (wrap64 (100 * (rd l0 x33_2))))) t201 t202 _ A19.out).mono ?_
                  rintro e w66 ⟨rfl, hb⟩
                  refine ⟨_, rfl, ?_⟩
                  have n0_ := Aside0.mk (Kd.R_below (kr_ HO_6) hb)
                  have n1_ := Aside0.mk (blk_below (g := gb196) (o := .cells #[.int .i64 x197000_2, .int .i64 x197001_2] 30 (0, 0)) (bk_ BK196) hb)
                  have n2_ := Aside0.mk (blk_below (g := gb200) (o := .cells #[.int .i64 (wrap64 (1000000 - t198)), .int .i64 (wrap64 (1000000 - t199))] 30 (0, 0)) (bk_ BK200) hb)
                  have n3_ := Aside0.mk (blk_below (g := gb206) (o := .cells #[.int .i64 0, .int .i64 0] 30 (0, 0)) (bk_ BK206) hb)
                  have n4_ := Aside0.mk (below_step (bl_ HB) hb)
                  clear HO_6
                  clear BK196
                  clear BK200
                  clear BK206
                  clear HB
                  have HO_6 := n0_
                  have BK196 := n1_
                  have BK200 := n2_
                  have BK206 := n3_
                  have HB := n4_
                  clear n0_ n1_ n2_ n3_ n4_
                  (try clear hb)
                  (try clear hb2)
                  (try clear hk)
                  (try clear hi)
                  refine hK.out _ _ ⟨(blk_cell BK200.out 0).trans rfl, (blk_cell BK200.out 1).trans rfl⟩ (fun hHeld => ?_)
                  clear hK K
                  refine norm_ (a' := ?_) ?_ ?_
                  rotate_left
                  ·
                   show Act.put _ (some 56) _ = _
                   simp only [Act.put, sa_, sb_, sc_, i64_w, i32_w]
                   rfl
                  refine one_ (i := 4) (N := some 57) #[true, true, true, true, true, false, false, false, true, false, false] rfl rfl (one_of HT_.out (by kernel_rfl)) (by decide) (fun K hK => ?_)
                  refine goes_ Tryd.func26 (by kernel_rfl) rfl #[.agg #[.int .i64 (wrap64 (1000000 - t198)), .int .i64 (wrap64 (1000000 - t199))], .agg #[.int .i64 t201, .int .i64 t202]] (by rfl) rfl rfl (by (try simp only [List.map_toArray, List.map_cons, List.map_nil]); first | done | rfl | (simp only [List.length_drop, List.length_take]; rfl)) ?_
                  with_reducible refine (impl_Range_through.calls (wrap64 (1000000 - t198)) (wrap64 (1000000 - t199)) t201 t202 t203 t204 none _ ?side1 A20.out).mono ?_
                  (case side1 => first | exact HTab.out | exact Tab.below HTab.out (bl_ HB))
                  rintro e w67 ⟨rfl, hb⟩
                  refine ⟨_, rfl, ?_⟩
                  have n0_ := Aside0.mk (Kd.R_below (kr_ HO_6) hb)
                  have n1_ := Aside0.mk (blk_below (g := gb196) (o := .cells #[.int .i64 x197000_2, .int .i64 x197001_2] 30 (0, 0)) (bk_ BK196) hb)
                  have n2_ := Aside0.mk (blk_below (g := gb200) (o := .cells #[.int .i64 (wrap64 (1000000 - t198)), .int .i64 (wrap64 (1000000 - t199))] 30 (0, 0)) (bk_ BK200) hb)
                  have n3_ := Aside0.mk (blk_below (g := gb206) (o := .cells #[.int .i64 0, .int .i64 0] 30 (0, 0)) (bk_ BK206) hb)
                  have n4_ := Aside0.mk (below_step (bl_ HB) hb)
                  clear HO_6
                  clear BK196
                  clear BK200
                  clear BK206
                  clear HB
                  have HO_6 := n0_
                  have BK196 := n1_
                  have BK200 := n2_
                  have BK206 := n3_
                  have HB := n4_
                  clear n0_ n1_ n2_ n3_ n4_
                  (try clear hb)
                  (try clear hb2)
                  (try clear hk)
                  (try clear hi)
                  (try simp only [errW_none, errW_some])
                  refine hK.out _ _ ⟨(blk_cell BK200.out 0).trans rfl, (blk_cell BK200.out 1).trans rfl⟩ (fun hHeld => ?_)
                  clear hK K
                  refine norm_ (a' := ?_) ?_ ?_
                  rotate_left
                  ·
                   show Act.put _ (some 57) _ = _
                   simp only [Act.put, sa_, sb_, sc_, i64_w, i32_w]
                   rfl
                  refine pure_ (i := 5) (N := some 52) (v := ?_) (a' := ?_) #[true, true, true, true, true, true, false, false, true, false, false] rfl rfl (any_of HT_.out (by kernel_rfl)) (fun _ _ _ h => h) (Or.inl ⟨by rfl, ?_⟩) ?_ ?_
                  rotate_left
                  ·
                   intro w'
                   go_simp
                   with_reducible rfl
                  rotate_left
                  ·
                   simp only [Act.put, sa_, sb_, sc_, i64_w, i32_w]
                   rfl
                  refine pure_ (i := 6) (N := some 58) (v := ?_) (a' := ?_) #[true, true, true, true, true, true, true, false, true, false, false] rfl rfl (any_of HT_.out (by kernel_rfl)) (fun _ _ _ h => h) (Or.inl ⟨by rfl, ?_⟩) ?_ ?_
                  rotate_left
                  ·
                   intro w'
                   go_simp
                   with_reducible rfl
                  rotate_left
                  ·
                   simp only [Act.put, sa_, sb_, sc_, i64_w, i32_w]
                   rfl
                  refine pure_ (i := 7) (N := some 59) (v := ?_) (a' := ?_) #[true, true, true, true, true, true, true, true, true, false, false] rfl rfl (any_of HT_.out (by kernel_rfl)) (fun _ _ _ h => h) (Or.inl ⟨by rfl, ?_⟩) ?_ ?_
                  rotate_left
                  ·
                   intro w'
                   go_simp
                   with_reducible rfl
                  rotate_left
                  ·
                   simp only [Act.put, sa_, sb_, sc_, i64_w, i32_w]
                   rfl
                  exact norm_ (by simp only [putAll, Act.put, sa_, sb_, sc_]) (hCont (gb206) _ ⟨hHeld, (by (with_reducible repeat (first | apply Kd.R_alloc | apply Kd.R_drewN | apply Kd.R_drew)); exact Kd.R_mono HO_6.out (fun _ hk => ⟨hk.1.1, ⟨hk.1.2, hk.2⟩⟩)), (bk_ BK196), (bk_ BK200), (bk_ BK206), GW206.out, GE206.out, NB196_206.out, NB206_196.out, NB200_206.out, NB206_200.out, (bl_ HB)⟩)
                rintro gb206 w68 ⟨hS_, h0_, h1_, h2_, h3_, h4_, h5_, h6_, h7_, h8_, h9_, h10_⟩
                have n0_ : Aside0 (Kd.R k30 30 w68 w.heap.size (fun k_ => k_ ≠ gb196 ∧ k_ ≠ gb200 ∧ k_ ≠ gb206) u6 x6_2) := ⟨h0_⟩
                have n1_ : Aside0 (w68.heap[gb196]? = some (.cells #[.int .i64 x197000_2, .int .i64 x197001_2] 30 (0, 0))) := ⟨h1_⟩
                have n2_ : Aside0 (w68.heap[gb200]? = some (.cells #[.int .i64 (wrap64 (1000000 - t198)), .int .i64 (wrap64 (1000000 - t199))] 30 (0, 0))) := ⟨h2_⟩
                have n3_ : Aside0 (w68.heap[gb206]? = some (.cells #[.int .i64 0, .int .i64 0] 30 (0, 0))) := ⟨h3_⟩
                have n4_ : Aside0 (w.heap.size ≤ gb206) := ⟨h4_⟩
                have n5_ : Aside0 (w.heap.size ≤ gb206) := ⟨h5_⟩
                have n6_ : Aside0 (gb196 ≠ gb206) := ⟨h6_⟩
                have n7_ : Aside0 (gb206 ≠ gb196) := ⟨h7_⟩
                have n8_ : Aside0 (gb200 ≠ gb206) := ⟨h8_⟩
                have n9_ : Aside0 (gb206 ≠ gb200) := ⟨h9_⟩
                have n10_ : Aside0 (Below w.heap.size w w68) := ⟨h10_⟩
                clear HO_6
                clear BK196
                clear BK200
                clear HB
                clear h0_ h1_ h2_ h3_ h4_ h5_ h6_ h7_ h8_ h9_ h10_
                have HO_6 := n0_
                have BK196 := n1_
                have BK200 := n2_
                have BK206 := n3_
                have GW206 := n4_
                have GE206 := n5_
                have NB196_206 := n6_
                have NB206_196 := n7_
                have NB200_206 := n8_
                have NB206_200 := n9_
                have HB := n10_
                clear n0_ n1_ n2_ n3_ n4_ n5_ n6_ n7_ n8_ n9_ n10_
                have hHeld : w68.cell? ⟨gb200, 0, none⟩ = some (.int .i64 (wrap64 (1000000 - t198))) ∧ w68.cell? ⟨gb200, 1, none⟩ = some (.int .i64 (wrap64 (1000000 - t199))) := hS_
                refine norm_ (a' := ?_) ?_ ?_
                rotate_left
                ·
                 simp only [putAll, Act.put, sa_, sb_, sc_]
                 rfl
                refine one_ (i := 9) (N := none) #[true, true, true, true, true, true, true, true, true, true, false] rfl rfl (one_of HT_.out (by kernel_rfl)) (by decide) (fun K hK => ?_)
                have hs69 : w68.cell? ⟨gb206, 0, none⟩ = some (.int .i64 0) := (blk_cell BK206.out 0).trans rfl
                have hfs69 := blk_frozen BK206.out 0
                have hns69_0 := NB196_206.out
                have hns69_1 := NB200_206.out
                have hms69_0 := NB206_196.out
                have hms69_1 := NB206_200.out
                have hs70 : w68.cell? ⟨gb206, 1, none⟩ = some (.int .i64 0) := (blk_cell BK206.out 1).trans rfl
                have hfs70 := blk_frozen BK206.out 1
                have hns70_0 := NB196_206.out
                have hns70_1 := NB200_206.out
                have hms70_0 := NB206_196.out
                have hms70_1 := NB206_200.out
                refine skip_ (w1 := ?_) (by rfl) rfl ?_ ?_
                rotate_left
                ·
                 go_simp
                 rfl
                refine hK.out _ _ ⟨((cell_far (p := ⟨gb206, _, none⟩) NB200_206.out _).trans (((cell_far (p := ⟨gb206, _, none⟩) NB200_206.out _).trans (hHeld.1)))), ((cell_far (p := ⟨gb206, _, none⟩) NB200_206.out _).trans (((cell_far (p := ⟨gb206, _, none⟩) NB200_206.out _).trans (hHeld.2))))⟩ (fun hHeld => ?_)
                clear hK K
                refine pure_ (i := 10) (N := some 13) (v := ?_) (a' := ?_) #[true, true, true, true, true, true, true, true, true, true, true] rfl rfl (any_of HT_.out (by kernel_rfl)) (fun _ _ _ h => h) (Or.inl ⟨by rfl, ?_⟩) ?_ ?_
                rotate_left
                ·
                 intro w'
                 go_simp
                 with_reducible rfl
                rotate_left
                ·
                 simp only [Act.put, sa_, sb_, sc_, i64_w, i32_w]
                 rfl
                refine done_ (done_of HT_.out (by kernel_rfl)) ?_
                have hnb71 := NB200_196.out
                have hnc71 := NB196_200.out
                have hnb72 := NB200_206.out
                have hnc72 := NB206_200.out
                have hcz73_0 : w68.cell? ⟨gb200, 0, none⟩ = some (.int .i64 (wrap64 (1000000 - t198))) := (blk_cell BK200.out 0).trans rfl
                have hcz73_1 : w68.cell? ⟨gb200, 1, none⟩ = some (.int .i64 (wrap64 (1000000 - t199))) := (blk_cell BK200.out 1).trans rfl
                have hfz73_0 := blk_frozen BK200.out 0
                have hfz73_1 := blk_frozen BK200.out 1
                have hnb74 := NB206_196.out
                have hnc74 := NB196_206.out
                have hcz75_0 : w68.cell? ⟨gb206, 0, none⟩ = some (.int .i64 0) := (blk_cell BK206.out 0).trans rfl
                have hcz75_1 : w68.cell? ⟨gb206, 1, none⟩ = some (.int .i64 0) := (blk_cell BK206.out 1).trans rfl
                have hfz75_0 := blk_frozen BK206.out 0
                have hfz75_1 := blk_frozen BK206.out 1
                try go_wp2_with (first | ((with_reducible refine gate_builtin (b := .append) (xs := #[.tmp 72, .tmp 74]) rfl ?_); at_builtin; refine Kd.R_append k30 (w0 := w) w.heap.size rfl (.tmp 72) (.tmp 74) 25 30 (.agg #[(.int .i64 0), (.int .i64 0)]) 16 rfl Tryd.underlying25 info30 rfl (by decide) (by omega) u6 x6_2 (⟨t203, t204⟩ : S30) [.int .i64 t203, .int .i64 t204] (fun k_ => k_ ≠ gb196 ∧ k_ ≠ gb200 ∧ k_ ≠ gb206) (fun _ => False) rfl (by first | (go_simp; done) | (go_simp; rfl)) ?aP (fun _ hk => hk.elim) ?aF ?aO ?aB ?aS ?aL ?_; (case aP => exact k30_mkM _ _ _ (⟨t203, t204⟩ : S30)); (case aB => exact (bl_ HB)); (case aF => exact (fun k_ hk => ⟨Kd.freshB (g := gb196) (o := .cells #[.int .i64 x197000_2, .int .i64 x197001_2] 30 (0, 0)) (by (with_reducible repeat (first | refine blk_drewN ?_ _ | refine blk_drew ?_ | refine blk_alloc ?_ _)); refine blk_far ?_ NB196_206.out _; (with_reducible repeat (first | refine blk_drewN ?_ _ | refine blk_drew ?_ | refine blk_alloc ?_ _)); refine blk_far ?_ NB196_206.out _; (with_reducible repeat (first | refine blk_drewN ?_ _ | refine blk_drew ?_ | refine blk_alloc ?_ _)); exact BK196.out) k_ hk, Kd.freshB (g := gb200) (o := .cells #[.int .i64 (wrap64 (1000000 - t198)), .int .i64 (wrap64 (1000000 - t199))] 30 (0, 0)) (by (with_reducible repeat (first | refine blk_drewN ?_ _ | refine blk_drew ?_ | refine blk_alloc ?_ _)); refine blk_far ?_ NB200_206.out _; (with_reducible repeat (first | refine blk_drewN ?_ _ | refine blk_drew ?_ | refine blk_alloc ?_ _)); refine blk_far ?_ NB200_206.out _; (with_reducible repeat (first | refine blk_drewN ?_ _ | refine blk_drew ?_ | refine blk_alloc ?_ _)); exact BK200.out) k_ hk, Kd.freshB (g := gb206) (o := .cells #[.int .i64 t203, .int .i64 t204] 30 (0, 0)) (by (with_reducible repeat (first | refine blk_drewN ?_ _ | refine blk_drew ?_ | refine blk_alloc ?_ _)); refine blk_put (cs := #[.int .i64 t203, .int .i64 0]) ?_ 1 _ rfl; (with_reducible repeat (first | refine blk_drewN ?_ _ | refine blk_drew ?_ | refine blk_alloc ?_ _)); refine blk_put (cs := #[.int .i64 0, .int .i64 0]) ?_ 0 _ rfl; (with_reducible repeat (first | refine blk_drewN ?_ _ | refine blk_drew ?_ | refine blk_alloc ?_ _)); exact BK206.out) k_ hk⟩)); (case aO => exact (by (with_reducible repeat (first | apply Kd.R_alloc | apply Kd.R_drewN | apply Kd.R_drew)); exact Kd.R_mono (Kd.R_far (p := ⟨gb206, 1, none⟩) (Kd.R_far (p := ⟨gb206, 0, none⟩) (Kd.R_mono HO_6.out (fun k_ hk => (⟨hk, hk.2.2⟩ : _ ∧ k_ ≠ gb206))) (fun _ hk => hk.2) (.int .i64 t203)) (fun _ hk => hk.2) (.int .i64 t204)) (fun _ hk => ⟨hk.1.1, ⟨hk.1.2.1, hk.1.2.2⟩⟩))); (case aS => exact (below_size (bl_ HB))); (case aL => have := LMc57.out; omega); intro v209 w76 ho hb hg hat; rw [← Ny208.out] at ho; have n0_ := Aside0.mk (blk_grown (g := gb196) (o := .cells #[.int .i64 x197000_2, .int .i64 x197001_2] 30 (0, 0)) (by (with_reducible repeat (first | refine blk_drewN ?_ _ | refine blk_drew ?_ | refine blk_alloc ?_ _)); refine blk_far ?_ NB196_206.out _; (with_reducible repeat (first | refine blk_drewN ?_ _ | refine blk_drew ?_ | refine blk_alloc ?_ _)); refine blk_far ?_ NB196_206.out _; (with_reducible repeat (first | refine blk_drewN ?_ _ | refine blk_drew ?_ | refine blk_alloc ?_ _)); exact BK196.out) hg (Kd.R_away HO_6.out (fun _ hk => hk.1))); have n1_ := Aside0.mk (blk_grown (g := gb200) (o := .cells #[.int .i64 (wrap64 (1000000 - t198)), .int .i64 (wrap64 (1000000 - t199))] 30 (0, 0)) (by (with_reducible repeat (first | refine blk_drewN ?_ _ | refine blk_drew ?_ | refine blk_alloc ?_ _)); refine blk_far ?_ NB200_206.out _; (with_reducible repeat (first | refine blk_drewN ?_ _ | refine blk_drew ?_ | refine blk_alloc ?_ _)); refine blk_far ?_ NB200_206.out _; (with_reducible repeat (first | refine blk_drewN ?_ _ | refine blk_drew ?_ | refine blk_alloc ?_ _)); exact BK200.out) hg (Kd.R_away HO_6.out (fun _ hk => hk.2.1))); have n2_ := Aside0.mk (blk_grown (g := gb206) (o := .cells #[.int .i64 t203, .int .i64 t204] 30 (0, 0)) (by (with_reducible repeat (first | refine blk_drewN ?_ _ | refine blk_drew ?_ | refine blk_alloc ?_ _)); refine blk_put (cs := #[.int .i64 t203, .int .i64 0]) ?_ 1 _ rfl; (with_reducible repeat (first | refine blk_drewN ?_ _ | refine blk_drew ?_ | refine blk_alloc ?_ _)); refine blk_put (cs := #[.int .i64 0, .int .i64 0]) ?_ 0 _ rfl; (with_reducible repeat (first | refine blk_drewN ?_ _ | refine blk_drew ?_ | refine blk_alloc ?_ _)); exact BK206.out) hg (Kd.R_away HO_6.out (fun _ hk => hk.2.2))); have n3_ := Aside0.mk (hb); have n4_ := Aside0.mk (ho); clear BK196; clear BK200; clear BK206; clear HB; clear HO_6; have BK196 := n0_; have BK200 := n1_; have BK206 := n2_; have HB := n3_; have HO210 := n4_; clear n0_ n1_ n2_ n3_ n4_; clear ho hb hg hat; have hcz77_0 : w76.cell? ⟨gb196, 0, none⟩ = some (.int .i64 x197000_2) := (blk_cell BK196.out 0).trans rfl; have hcz77_1 : w76.cell? ⟨gb196, 1, none⟩ = some (.int .i64 x197001_2) := (blk_cell BK196.out 1).trans rfl; have hfz77_0 := blk_frozen BK196.out 0; have hfz77_1 := blk_frozen BK196.out 1; have hcz78_0 : w76.cell? ⟨gb206, 0, none⟩ = some (.int .i64 t203) := (blk_cell BK206.out 0).trans rfl; have hcz78_1 : w76.cell? ⟨gb206, 1, none⟩ = some (.int .i64 t204) := (blk_cell BK206.out 1).trans rfl; have hfz78_0 := blk_frozen BK206.out 0; have hfz78_1 := blk_frozen BK206.out 1))
                go_roundg k2
                case measure => have := HK1.out; have := HK2.out; omega
                case rel => exact ⟨(y208), (wrap64 (x33_2 + 1)), (wrap64 (x197000_2 + t203)), (wrap64 (x197001_2 + t204)), (by first | rfl | (simp; done) | (simp [*]; done)), H', ⟨by have := HK1.out; have := HK2.out; omega⟩, ⟨by (with_reducible repeat (first | apply Kd.R_alloc | apply Kd.R_drewN | apply Kd.R_drew)); exact Kd.R_mono (Kd.R_far (p := ⟨gb196, 1, none⟩) (Kd.R_far (p := ⟨gb196, 0, none⟩) (Kd.R_mono HO210.out (fun k_ hk => (⟨hk, hk.1⟩ : _ ∧ k_ ≠ gb196))) (fun _ hk => hk.2) (.int .i64 (wrap64 (x197000_2 + t203)))) (fun _ hk => hk.2) (.int .i64 (wrap64 (x197001_2 + t204)))) (fun _ hk => hk.1.1)⟩, ⟨by (with_reducible repeat (first | refine blk_drewN ?_ _ | refine blk_drew ?_ | refine blk_alloc ?_ _)); refine blk_put (cs := #[.int .i64 (wrap64 (x197000_2 + t203)), .int .i64 x197001_2]) ?_ 1 _ rfl; (with_reducible repeat (first | refine blk_drewN ?_ _ | refine blk_drew ?_ | refine blk_alloc ?_ _)); refine blk_put (cs := #[.int .i64 x197000_2, .int .i64 x197001_2]) ?_ 0 _ rfl; (with_reducible repeat (first | refine blk_drewN ?_ _ | refine blk_drew ?_ | refine blk_alloc ?_ _)); exact BK196.out⟩, ⟨by repeat (first | (with_reducible first | exact HB.out | apply below_alloc | apply pw_below_drewN | apply below_drew1 | refine below_set ?_ GE196.out | refine below_set ?_ GE200.out | refine below_set ?_ GE206.out) | exact HB.out)⟩⟩
               ·
                rw [if_neg c57] at H
                exact absurd H (by simp)
             ·
              have H1 : (some (([] : List (S30)), false)) = some (r1, r2) := by rw [if_neg (show ¬ (some q207).isNone = true by simp)] at H; exact H
              clear H
              have H := H1
              clear H1
              try simp only [errW_none, errW_some]
              simp only [Option.some.injEq, Prod.mk.injEq] at H
              obtain ⟨rfl, rfl⟩ := H
              have p197 : 0 ≤ (x33_2 : Int) := of_decide_eq_true (by first | (with_reducible assumption) | assumption)
              have q197 : x33_2 < (l0.length : Int) := of_decide_eq_true (by first | (with_reducible assumption) | assumption)
              obtain ⟨ad197, e197, hx197_0⟩ := Kd.at_int HR0.out x33_2 p197 q197
              cases e197
              replace hx197_0 := (HB.out.cell (World.block_lt_of_cell? w _ hx197_0)).trans hx197_0
              replace p197 := eq_true p197
              replace q197 := eq_true q197
              try go_wp2
              have n0_ := Aside0.mk (Kd.R_drew HO_6.out)
              have n1_ := Aside0.mk (blk_drew BK196.out)
              have n2_ := Aside0.mk (below_drew1 HB.out)
              clear HO_6
              clear BK196
              clear HB
              have HO_6 := n0_
              have BK196 := n1_
              have HB := n2_
              clear n0_ n1_ n2_
              refine start_ (n := 15) (S := fun w' => w'.cell? ⟨gb196, 0, none⟩ = some (.int .i64 x197000_2) ∧ w'.cell? ⟨gb196, 1, none⟩ = some (.int .i64 x197001_2)) (ds := []) #[false, false, false, false, false, false, false, false, false, false, false, false, false, false, false] (by kernel_rfl) rfl rfl ⟨(blk_cell BK196.out 0).trans rfl, (blk_cell BK196.out 1).trans rfl⟩ (fun hHeld => ?_); refine with_tabW impl_CurveOf.tab15 impl_CurveOf.bits15 (fun HT_ HW_ => ?_)
              generalize wr.drew = w79 at HO_6 BK196 HB hHeld ⊢
              refine pure_ (i := 0) (N := some 39) (v := ?_) (a' := ?_) #[true, false, false, false, false, false, false, false, false, false, false, false, false, false, false] rfl rfl (any_of HT_.out (by kernel_rfl)) (fun _ _ _ h => h) (Or.inl ⟨by rfl, ?_⟩) ?_ ?_
              rotate_left
              ·
               intro w'
               go_simp
               with_reducible rfl
              rotate_left
              ·
               simp only [Act.put, sa_, sb_, sc_, i64_w, i32_w]
               rfl
              refine pure_ (i := 1) (N := some 40) (v := ?_) (a' := ?_) #[true, true, false, false, false, false, false, false, false, false, false, false, false, false, false] rfl rfl (any_of HT_.out (by kernel_rfl)) (fun _ _ _ h => h) (Or.inl ⟨by rfl, ?_⟩) ?_ ?_
              rotate_left
              ·
               intro w'
               go_simp
               with_reducible rfl
              rotate_left
              ·
               simp only [Act.put, sa_, sb_, sc_, i64_w, i32_w]
               rfl
              refine pure_ (i := 6) (N := some 45) (v := ?_) (a' := ?_) #[true, true, false, false, false, false, true, false, false, false, false, false, false, false, false] rfl rfl (any_of HT_.out (by kernel_rfl)) (fun _ _ _ h => h) (Or.inl ⟨by rfl, ?_⟩) ?_ ?_
              rotate_left
              ·
               intro w'
               go_simp
               with_reducible rfl
              rotate_left
              ·
               simp only [Act.put, sa_, sb_, sc_, i64_w, i32_w]
               rfl
              refine pure_ (i := 7) (N := some 46) (v := ?_) (a' := ?_) #[true, true, false, false, false, false, true, true, false, false, false, false, false, false, false] rfl rfl (any_of HT_.out (by kernel_rfl)) (fun _ _ _ h => h) (Or.inl ⟨by rfl, ?_⟩) ?_ ?_
              rotate_left
              ·
               intro w'
               go_simp
               with_reducible rfl
              rotate_left
              ·
               simp only [Act.put, sa_, sb_, sc_, i64_w, i32_w]
               rfl
              refine take_ (i := 2) (N := some 41) (v := ?_) (a' := ?_) #[true, true, true, false, false, false, true, true, false, false, false, false, false, false, false] rfl rfl (take_ofW HT_.out HW_.out (by kernel_rfl)) (fun _ _ _ h => h) (Or.inl ⟨by rfl, ?_⟩) hHeld ?_ ?_
              rotate_left
              ·
               rintro w' ⟨s0, s1⟩
               go_simp
               with_reducible rfl
              rotate_left
              ·
               simp only [Act.put, sa_, sb_, sc_, i64_w, i32_w]
               rfl
              refine pure_ (i := 3) (N := some 42) (v := ?_) (a' := ?_) #[true, true, true, true, false, false, true, true, false, false, false, false, false, false, false] rfl rfl (any_of HT_.out (by kernel_rfl)) (fun _ _ _ h => h) (Or.inl ⟨by rfl, ?_⟩) ?_ ?_
              rotate_left
              ·
               intro w'
               go_simp
               with_reducible rfl
              rotate_left
              ·
               simp only [Act.put, sa_, sb_, sc_, i64_w, i32_w]
               rfl
              refine take_ (i := 8) (N := some 47) (v := ?_) (a' := ?_) #[true, true, true, true, false, false, true, true, true, false, false, false, false, false, false] rfl rfl (take_ofW HT_.out HW_.out (by kernel_rfl)) (fun _ _ _ h => h) (Or.inl ⟨by rfl, ?_⟩) hHeld ?_ ?_
              rotate_left
              ·
               rintro w' ⟨s0, s1⟩
               go_simp
               with_reducible rfl
              rotate_left
              ·
               simp only [Act.put, sa_, sb_, sc_, i64_w, i32_w]
               rfl
              refine pure_ (i := 9) (N := some 48) (v := ?_) (a' := ?_) #[true, true, true, true, false, false, true, true, true, true, false, false, false, false, false] rfl rfl (any_of HT_.out (by kernel_rfl)) (fun _ _ _ h => h) (Or.inl ⟨by rfl, ?_⟩) ?_ ?_
              rotate_left
              ·
               intro w'
               go_simp
               with_reducible rfl
              rotate_left
              ·
               simp only [Act.put, sa_, sb_, sc_, i64_w, i32_w]
               rfl
              refine join_ (σ := Nat) 1 #[true, true, true, true, true, true, true, true, true, true, true, true, true, true, false] (fun s_ => [(43, .int .i64 t198), (49, .int .i64 t199), (11, .pointer (some ⟨s_, 0, none⟩)), (44, .int .i64 (wrap64 (1000000 - t198))), (50, .int .i64 (wrap64 (1000000 - t199))), (51, .agg #[.int .i64 (wrap64 (1000000 - t198)), .int .i64 (wrap64 (1000000 - t199))])]) (fun s_ w' => (w'.cell? ⟨gb196, 0, none⟩ = some (.int .i64 x197000_2) ∧ w'.cell? ⟨gb196, 1, none⟩ = some (.int .i64 x197001_2)) ∧ (Kd.R k30 30 w' w.heap.size (fun k_ => k_ ≠ gb196 ∧ k_ ≠ s_) u6 x6_2) ∧ (w'.heap[gb196]? = some (.cells #[.int .i64 x197000_2, .int .i64 x197001_2] 30 (0, 0))) ∧ (w'.heap[s_]? = some (.cells #[.int .i64 0, .int .i64 0] 30 (0, 0))) ∧ (w.heap.size ≤ s_) ∧ (w.heap.size ≤ s_) ∧ (gb196 ≠ s_) ∧ (s_ ≠ gb196) ∧ (Below w.heap.size w w')) ?_ ?_
              rotate_left
              ·
               intro hCont
               refine two_ (i := 4) (j := 13) (Ni := some 43) (Nj := some 11) #[true, true, true, true, true, false, true, true, true, true, false, false, false, false, false] #[true, true, true, true, false, false, true, true, true, true, false, false, false, true, false] rfl rfl rfl rfl (two_of HT_.out (by kernel_rfl)) (by decide) (by decide) (fun K hK => ?_) (fun K hK => ?_)
               ·
                skip
                refine goes_ Tryd.func24 (by kernel_rfl) rfl #[.int .i64 (wrap64 ((wrap64 (100 * (rd l0 x33_2))) * x197001_2)), .int .i64 1000000] (by rfl) rfl rfl (by (try simp only [List.map_toArray, List.map_cons, List.map_nil]); first | done | rfl | (simp only [List.length_drop, List.length_take]; rfl)) ?_
                with_reducible refine (impl_ceil.calls (wrap64 ((wrap64 (100 * (rd l0 x33_2))) * x197001_2)) 1000000 t198 _ A17.out).mono ?_
                rintro e w' ⟨rfl, ⟨nd, rfl⟩⟩
                refine ⟨_, rfl, ?_⟩
                refine hK.out _ _ ⟨(blk_cell BK196.out 0).trans rfl, (blk_cell BK196.out 1).trans rfl⟩ (fun hHeld => ?_)
                clear hK K
                refine norm_ (a' := ?_) ?_ ?_
                rotate_left
                ·
                 show Act.put _ (some 43) _ = _
                 simp only [Act.put, sa_, sb_, sc_, i64_w, i32_w]
                 rfl
                refine pure_ (i := 5) (N := some 44) (v := ?_) (a' := ?_) #[true, true, true, true, true, true, true, true, true, true, false, false, false, false, false] rfl rfl (any_of HT_.out (by kernel_rfl)) (fun _ _ _ h => h) (Or.inl ⟨by rfl, ?_⟩) ?_ ?_
                rotate_left
                ·
                 intro w'
                 go_simp
                 with_reducible rfl
                rotate_left
                ·
                 simp only [Act.put, sa_, sb_, sc_, i64_w, i32_w]
                 rfl
                refine two_ (i := 10) (j := 13) (Ni := some 49) (Nj := some 11) #[true, true, true, true, true, true, true, true, true, true, true, false, false, false, false] #[true, true, true, true, true, true, true, true, true, true, false, false, false, true, false] rfl rfl rfl rfl (two_of HT_.out (by kernel_rfl)) (by decide) (by decide) (fun K hK => ?_) (fun K hK => ?_)
                ·
                 skip
                 refine goes_ Tryd.func25 (by kernel_rfl) rfl #[.int .i64 (wrap64 ((wrap64 (100 * (rd l0 x33_2))) * x197000_2)), .int .i64 1000000] (by rfl) rfl rfl (by (try simp only [List.map_toArray, List.map_cons, List.map_nil]); first | done | rfl | (simp only [List.length_drop, List.length_take]; rfl)) ?_
                 with_reducible refine (impl_floor.calls (wrap64 ((wrap64 (100 * (rd l0 x33_2))) * x197000_2)) 1000000 t199 _ A18.out).mono ?_
                 rintro e w' ⟨rfl, ⟨nd, rfl⟩⟩
                 refine ⟨_, rfl, ?_⟩
                 refine hK.out _ _ ⟨(blk_cell BK196.out 0).trans rfl, (blk_cell BK196.out 1).trans rfl⟩ (fun hHeld => ?_)
                 clear hK K
                 refine norm_ (a' := ?_) ?_ ?_
                 rotate_left
                 ·
                  show Act.put _ (some 49) _ = _
                  simp only [Act.put, sa_, sb_, sc_, i64_w, i32_w]
                  rfl
                 refine pure_ (i := 11) (N := some 50) (v := ?_) (a' := ?_) #[true, true, true, true, true, true, true, true, true, true, true, true, false, false, false] rfl rfl (any_of HT_.out (by kernel_rfl)) (fun _ _ _ h => h) (Or.inl ⟨by rfl, ?_⟩) ?_ ?_
                 rotate_left
                 ·
                  intro w'
                  go_simp
                  with_reducible rfl
                 rotate_left
                 ·
                  simp only [Act.put, sa_, sb_, sc_, i64_w, i32_w]
                  rfl
                 refine pure_ (i := 12) (N := some 51) (v := ?_) (a' := ?_) #[true, true, true, true, true, true, true, true, true, true, true, true, true, false, false] rfl rfl (any_of HT_.out (by kernel_rfl)) (fun _ _ _ h => h) (Or.inl ⟨by rfl, ?_⟩) ?_ ?_
                 rotate_left
                 ·
                  intro w'
                  go_simp
                  with_reducible rfl
                 rotate_left
                 ·
                  simp only [Act.put, sa_, sb_, sc_, i64_w, i32_w]
                  rfl
                 refine one_ (i := 13) (N := some 11) #[true, true, true, true, true, true, true, true, true, true, true, true, true, true, false] rfl rfl (one_of HT_.out (by kernel_rfl)) (by decide) (fun K hK => ?_)
                 refine box_step ?hg (N := 11) ?hd (cs := #[.int .i64 0, .int .i64 0]) (t := 30) ?hr ?_; (case hd => rfl); (case hg => rfl); (case hr => first | (go_simp; done) | (go_simp; rfl))
                 intro gb200 hg w80 hbox hb
                 have n0_ := Aside0.mk (Kd.R_below (Kd.R_elderB (kr_ HO_6) gb200 (Nat.le_of_eq hg.symm)) hb)
                 have n1_ := Aside0.mk (blk_below (g := gb196) (o := .cells #[.int .i64 x197000_2, .int .i64 x197001_2] 30 (0, 0)) (bk_ BK196) hb)
                 have n2_ := Aside0.mk (below_step (bl_ HB) hb)
                 have n3_ := Aside0.mk (hbox)
                 have n4_ := Aside0.mk ((by rw [hg]; exact (below_size (bl_ HB)) : w.heap.size ≤ gb200))
                 have n5_ := Aside0.mk ((by rw [hg]; exact (below_size (bl_ HB)) : w.heap.size ≤ gb200))
                 have n6_ := Aside0.mk ((by rw [hg]; exact Nat.ne_of_lt (blk_lt (g := gb196) (o := .cells #[.int .i64 x197000_2, .int .i64 x197001_2] 30 (0, 0)) (bk_ BK196)) : gb196 ≠ gb200))
                 have n7_ := Aside0.mk ((by rw [hg]; exact Nat.ne_of_gt (blk_lt (g := gb196) (o := .cells #[.int .i64 x197000_2, .int .i64 x197001_2] 30 (0, 0)) (bk_ BK196)) : gb200 ≠ gb196))
                 clear HO_6
                 clear BK196
                 clear HB
                 have HO_6 := n0_
                 have BK196 := n1_
                 have HB := n2_
                 have BK200 := n3_
                 have GW200 := n4_
                 have GE200 := n5_
                 have NB196_200 := n6_
                 have NB200_196 := n7_
                 clear n0_ n1_ n2_ n3_ n4_ n5_ n6_ n7_
                 clear hb hbox hg
                 refine hK.out _ _ ⟨(blk_cell BK196.out 0).trans rfl, (blk_cell BK196.out 1).trans rfl⟩ (fun hHeld => ?_)
                 clear hK K
                 refine norm_ (a' := ?_) ?_ ?_
                 rotate_left
                 ·
                  show Act.put _ (some 11) _ = _
                  simp only [Act.put, sa_, sb_, sc_, i64_w, i32_w]
                  rfl
                 exact norm_ (by simp only [putAll, Act.put, sa_, sb_, sc_]) (hCont (gb200) _ ⟨hHeld, (kr_ HO_6), (bk_ BK196), (bk_ BK200), GW200.out, GE200.out, NB196_200.out, NB200_196.out, (bl_ HB)⟩)
                ·
                 skip
                 refine box_step ?hg (N := 11) ?hd (cs := #[.int .i64 0, .int .i64 0]) (t := 30) ?hr ?_; (case hd => rfl); (case hg => rfl); (case hr => first | (go_simp; done) | (go_simp; rfl))
                 intro gb200 hg w80 hbox hb
                 have n0_ := Aside0.mk (Kd.R_below (Kd.R_elderB (kr_ HO_6) gb200 (Nat.le_of_eq hg.symm)) hb)
                 have n1_ := Aside0.mk (blk_below (g := gb196) (o := .cells #[.int .i64 x197000_2, .int .i64 x197001_2] 30 (0, 0)) (bk_ BK196) hb)
                 have n2_ := Aside0.mk (below_step (bl_ HB) hb)
                 have n3_ := Aside0.mk (hbox)
                 have n4_ := Aside0.mk ((by rw [hg]; exact (below_size (bl_ HB)) : w.heap.size ≤ gb200))
                 have n5_ := Aside0.mk ((by rw [hg]; exact (below_size (bl_ HB)) : w.heap.size ≤ gb200))
                 have n6_ := Aside0.mk ((by rw [hg]; exact Nat.ne_of_lt (blk_lt (g := gb196) (o := .cells #[.int .i64 x197000_2, .int .i64 x197001_2] 30 (0, 0)) (bk_ BK196)) : gb196 ≠ gb200))
                 have n7_ := Aside0.mk ((by rw [hg]; exact Nat.ne_of_gt (blk_lt (g := gb196) (o := .cells #[.int .i64 x197000_2, .int .i64 x197001_2] 30 (0, 0)) (bk_ BK196)) : gb200 ≠ gb196))
                 clear HO_6
                 clear BK196
                 clear HB
                 have HO_6 := n0_
                 have BK196 := n1_
                 have HB := n2_
                 have BK200 := n3_
                 have GW200 := n4_
                 have GE200 := n5_
                 have NB196_200 := n6_
                 have NB200_196 := n7_
                 clear n0_ n1_ n2_ n3_ n4_ n5_ n6_ n7_
                 clear hb hbox hg
                 refine hK.out _ _ ⟨(blk_cell BK196.out 0).trans rfl, (blk_cell BK196.out 1).trans rfl⟩ (fun hHeld => ?_)
                 clear hK K
                 refine norm_ (a' := ?_) ?_ ?_
                 rotate_left
                 ·
                  show Act.put _ (some 11) _ = _
                  simp only [Act.put, sa_, sb_, sc_, i64_w, i32_w]
                  rfl
                 refine one_ (i := 10) (N := some 49) #[true, true, true, true, true, true, true, true, true, true, true, false, false, true, false] rfl rfl (one_of HT_.out (by kernel_rfl)) (by decide) (fun K hK => ?_)
                 refine goes_ Tryd.func25 (by kernel_rfl) rfl #[.int .i64 (wrap64 ((wrap64 (100 * (rd l0 x33_2))) * x197000_2)), .int .i64 1000000] (by rfl) rfl rfl (by (try simp only [List.map_toArray, List.map_cons, List.map_nil]); first | done | rfl | (simp only [List.length_drop, List.length_take]; rfl)) ?_
                 with_reducible refine (impl_floor.calls (wrap64 ((wrap64 (100 * (rd l0 x33_2))) * x197000_2)) 1000000 t199 _ A18.out).mono ?_
                 rintro e w' ⟨rfl, ⟨nd, rfl⟩⟩
                 refine ⟨_, rfl, ?_⟩
                 refine hK.out _ _ ⟨(blk_cell BK196.out 0).trans rfl, (blk_cell BK196.out 1).trans rfl⟩ (fun hHeld => ?_)
                 clear hK K
                 refine norm_ (a' := ?_) ?_ ?_
                 rotate_left
                 ·
                  show Act.put _ (some 49) _ = _
                  simp only [Act.put, sa_, sb_, sc_, i64_w, i32_w]
                  rfl
                 refine pure_ (i := 11) (N := some 50) (v := ?_) (a' := ?_) #[true, true, true, true, true, true, true, true, true, true, true, true, false, true, false] rfl rfl (any_of HT_.out (by kernel_rfl)) (fun _ _ _ h => h) (Or.inl ⟨by rfl, ?_⟩) ?_ ?_
                 rotate_left
                 ·
                  intro w'
                  go_simp
                  with_reducible rfl
                 rotate_left
                 ·
                  simp only [Act.put, sa_, sb_, sc_, i64_w, i32_w]
                  rfl
                 refine pure_ (i := 12) (N := some 51) (v := ?_) (a' := ?_) #[true, true, true, true, true, true, true, true, true, true, true, true, true, true, false] rfl rfl (any_of HT_.out (by kernel_rfl)) (fun _ _ _ h => h) (Or.inl ⟨by rfl, ?_⟩) ?_ ?_
                 rotate_left
                 ·
                  intro w'
                  go_simp
                  with_reducible rfl
                 rotate_left
                 ·
                  simp only [Act.put, sa_, sb_, sc_, i64_w, i32_w]
                  rfl
                 exact norm_ (by simp only [putAll, Act.put, sa_, sb_, sc_]) (hCont (gb200) _ ⟨hHeld, (kr_ HO_6), (bk_ BK196), (bk_ BK200), GW200.out, GE200.out, NB196_200.out, NB200_196.out, (bl_ HB)⟩)
               ·
                skip
                refine box_step ?hg (N := 11) ?hd (cs := #[.int .i64 0, .int .i64 0]) (t := 30) ?hr ?_; (case hd => rfl); (case hg => rfl); (case hr => first | (go_simp; done) | (go_simp; rfl))
                intro gb200 hg w80 hbox hb
                have n0_ := Aside0.mk (Kd.R_below (Kd.R_elderB (kr_ HO_6) gb200 (Nat.le_of_eq hg.symm)) hb)
                have n1_ := Aside0.mk (blk_below (g := gb196) (o := .cells #[.int .i64 x197000_2, .int .i64 x197001_2] 30 (0, 0)) (bk_ BK196) hb)
                have n2_ := Aside0.mk (below_step (bl_ HB) hb)
                have n3_ := Aside0.mk (hbox)
                have n4_ := Aside0.mk ((by rw [hg]; exact (below_size (bl_ HB)) : w.heap.size ≤ gb200))
                have n5_ := Aside0.mk ((by rw [hg]; exact (below_size (bl_ HB)) : w.heap.size ≤ gb200))
                have n6_ := Aside0.mk ((by rw [hg]; exact Nat.ne_of_lt (blk_lt (g := gb196) (o := .cells #[.int .i64 x197000_2, .int .i64 x197001_2] 30 (0, 0)) (bk_ BK196)) : gb196 ≠ gb200))
                have n7_ := Aside0.mk ((by rw [hg]; exact Nat.ne_of_gt (blk_lt (g := gb196) (o := .cells #[.int .i64 x197000_2, .int .i64 x197001_2] 30 (0, 0)) (bk_ BK196)) : gb200 ≠ gb196))
                clear HO_6
                clear BK196
                clear HB
                have HO_6 := n0_
                have BK196 := n1_
                have HB := n2_
                have BK200 := n3_
                have GW200 := n4_
                have GE200 := n5_
                have NB196_200 := n6_
                have NB200_196 := n7_
                clear n0_ n1_ n2_ n3_ n4_ n5_ n6_ n7_
                clear hb hbox hg
                refine hK.out _ _ ⟨(blk_cell BK196.out 0).trans rfl, (blk_cell BK196.out 1).trans rfl⟩ (fun hHeld => ?_)
                clear hK K
                refine norm_ (a' := ?_) ?_ ?_
                rotate_left
                ·
                 show Act.put _ (some 11) _ = _
                 simp only [Act.put, sa_, sb_, sc_, i64_w, i32_w]
                 rfl
                refine one_ (i := 4) (N := some 43) #[true, true, true, true, true, false, true, true, true, true, false, false, false, true, false] rfl rfl (one_of HT_.out (by kernel_rfl)) (by decide) (fun K hK => ?_)
                refine goes_ Tryd.func24 (by kernel_rfl) rfl #[.int .i64 (wrap64 ((wrap64 (100 * (rd l0 x33_2))) * x197001_2)), .int .i64 1000000] (by rfl) rfl rfl (by (try simp only [List.map_toArray, List.map_cons, List.map_nil]); first | done | rfl | (simp only [List.length_drop, List.length_take]; rfl)) ?_
                with_reducible refine (impl_ceil.calls (wrap64 ((wrap64 (100 * (rd l0 x33_2))) * x197001_2)) 1000000 t198 _ A17.out).mono ?_
                rintro e w' ⟨rfl, ⟨nd, rfl⟩⟩
                refine ⟨_, rfl, ?_⟩
                refine hK.out _ _ ⟨(blk_cell BK196.out 0).trans rfl, (blk_cell BK196.out 1).trans rfl⟩ (fun hHeld => ?_)
                clear hK K
                refine norm_ (a' := ?_) ?_ ?_
                rotate_left
                ·
                 show Act.put _ (some 43) _ = _
                 simp only [Act.put, sa_, sb_, sc_, i64_w, i32_w]
                 rfl
                refine pure_ (i := 5) (N := some 44) (v := ?_) (a' := ?_) #[true, true, true, true, true, true, true, true, true, true, false, false, false, true, false] rfl rfl (any_of HT_.out (by kernel_rfl)) (fun _ _ _ h => h) (Or.inl ⟨by rfl, ?_⟩) ?_ ?_
                rotate_left
                ·
                 intro w'
                 go_simp
                 with_reducible rfl
                rotate_left
                ·
                 simp only [Act.put, sa_, sb_, sc_, i64_w, i32_w]
                 rfl
                refine one_ (i := 10) (N := some 49) #[true, true, true, true, true, true, true, true, true, true, true, false, false, true, false] rfl rfl (one_of HT_.out (by kernel_rfl)) (by decide) (fun K hK => ?_)
                refine goes_ Tryd.func25 (by kernel_rfl) rfl #[.int .i64 (wrap64 ((wrap64 (100 * (rd l0 x33_2))) * x197000_2)), .int .i64 1000000] (by rfl) rfl rfl (by (try simp only [List.map_toArray, List.map_cons, List.map_nil]); first | done | rfl | (simp only [List.length_drop, List.length_take]; rfl)) ?_
                with_reducible refine (impl_floor.calls (wrap64 ((wrap64 (100 * (rd l0 x33_2))) * x197000_2)) 1000000 t199 _ A18.out).mono ?_
                rintro e w' ⟨rfl, ⟨nd, rfl⟩⟩
                refine ⟨_, rfl, ?_⟩
                refine hK.out _ _ ⟨(blk_cell BK196.out 0).trans rfl, (blk_cell BK196.out 1).trans rfl⟩ (fun hHeld => ?_)
                clear hK K
                refine norm_ (a' := ?_) ?_ ?_
                rotate_left
                ·
                 show Act.put _ (some 49) _ = _
                 simp only [Act.put, sa_, sb_, sc_, i64_w, i32_w]
                 rfl
                refine pure_ (i := 11) (N := some 50) (v := ?_) (a' := ?_) #[true, true, true, true, true, true, true, true, true, true, true, true, false, true, false] rfl rfl (any_of HT_.out (by kernel_rfl)) (fun _ _ _ h => h) (Or.inl ⟨by rfl, ?_⟩) ?_ ?_
                rotate_left
                ·
                 intro w'
                 go_simp
                 with_reducible rfl
                rotate_left
                ·
                 simp only [Act.put, sa_, sb_, sc_, i64_w, i32_w]
                 rfl
                refine pure_ (i := 12) (N := some 51) (v := ?_) (a' := ?_) #[true, true, true, true, true, true, true, true, true, true, true, true, true, true, false] rfl rfl (any_of HT_.out (by kernel_rfl)) (fun _ _ _ h => h) (Or.inl ⟨by rfl, ?_⟩) ?_ ?_
                rotate_left
                ·
                 intro w'
                 go_simp
                 with_reducible rfl
                rotate_left
                ·
                 simp only [Act.put, sa_, sb_, sc_, i64_w, i32_w]
                 rfl
                exact norm_ (by simp only [putAll, Act.put, sa_, sb_, sc_]) (hCont (gb200) _ ⟨hHeld, (kr_ HO_6), (bk_ BK196), (bk_ BK200), GW200.out, GE200.out, NB196_200.out, NB200_196.out, (bl_ HB)⟩)
              rintro gb200 w81 ⟨hS_, h0_, h1_, h2_, h3_, h4_, h5_, h6_, h7_⟩
              have n0_ : Aside0 (Kd.R k30 30 w81 w.heap.size (fun k_ => k_ ≠ gb196 ∧ k_ ≠ gb200) u6 x6_2) := ⟨h0_⟩
              have n1_ : Aside0 (w81.heap[gb196]? = some (.cells #[.int .i64 x197000_2, .int .i64 x197001_2] 30 (0, 0))) := ⟨h1_⟩
              have n2_ : Aside0 (w81.heap[gb200]? = some (.cells #[.int .i64 0, .int .i64 0] 30 (0, 0))) := ⟨h2_⟩
              have n3_ : Aside0 (w.heap.size ≤ gb200) := ⟨h3_⟩
              have n4_ : Aside0 (w.heap.size ≤ gb200) := ⟨h4_⟩
              have n5_ : Aside0 (gb196 ≠ gb200) := ⟨h5_⟩
              have n6_ : Aside0 (gb200 ≠ gb196) := ⟨h6_⟩
              have n7_ : Aside0 (Below w.heap.size w w81) := ⟨h7_⟩
              clear HO_6
              clear BK196
              clear HB
              clear h0_ h1_ h2_ h3_ h4_ h5_ h6_ h7_
              have HO_6 := n0_
              have BK196 := n1_
              have BK200 := n2_
              have GW200 := n3_
              have GE200 := n4_
              have NB196_200 := n5_
              have NB200_196 := n6_
              have HB := n7_
              clear n0_ n1_ n2_ n3_ n4_ n5_ n6_ n7_
              have hHeld : w81.cell? ⟨gb196, 0, none⟩ = some (.int .i64 x197000_2) ∧ w81.cell? ⟨gb196, 1, none⟩ = some (.int .i64 x197001_2) := hS_
              refine norm_ (a' := ?_) ?_ ?_
              rotate_left
              ·
               simp only [putAll, Act.put, sa_, sb_, sc_]
               rfl
              refine one_ (i := 14) (N := none) #[true, true, true, true, true, true, true, true, true, true, true, true, true, true, true] rfl rfl (one_of HT_.out (by kernel_rfl)) (by decide) (fun K hK => ?_)
              have hs82 : w81.cell? ⟨gb200, 0, none⟩ = some (.int .i64 0) := (blk_cell BK200.out 0).trans rfl
              have hfs82 := blk_frozen BK200.out 0
              have hns82_0 := NB196_200.out
              have hms82_0 := NB200_196.out
              have hs83 : w81.cell? ⟨gb200, 1, none⟩ = some (.int .i64 0) := (blk_cell BK200.out 1).trans rfl
              have hfs83 := blk_frozen BK200.out 1
              have hns83_0 := NB196_200.out
              have hms83_0 := NB200_196.out
              refine skip_ (w1 := ?_) (by rfl) rfl ?_ ?_
              rotate_left
              ·
               go_simp
               rfl
              refine hK.out _ _ ⟨((cell_far (p := ⟨gb200, _, none⟩) NB196_200.out _).trans (((cell_far (p := ⟨gb200, _, none⟩) NB196_200.out _).trans (hHeld.1)))), ((cell_far (p := ⟨gb200, _, none⟩) NB196_200.out _).trans (((cell_far (p := ⟨gb200, _, none⟩) NB196_200.out _).trans (hHeld.2))))⟩ (fun hHeld => ?_)
              clear hK K
              refine done_ (done_of HT_.out (by kernel_rfl)) ?_
              try go_wp2
              have n0_ : Aside0 (Kd.R k30 30 ((w81.setCell ⟨gb200, 0, none⟩ (.int .i64 (wrap64 (1000000 - t198)))).setCell ⟨gb200, 1, none⟩ (.int .i64 (wrap64 (1000000 - t199)))) w.heap.size (fun k_ => k_ ≠ gb196 ∧ k_ ≠ gb200) u6 x6_2) := ⟨by (with_reducible repeat (first | apply Kd.R_alloc | apply Kd.R_drewN | apply Kd.R_drew)); exact Kd.R_mono (Kd.R_far (p := ⟨gb200, 1, none⟩) (Kd.R_far (p := ⟨gb200, 0, none⟩) (Kd.R_mono HO_6.out (fun k_ hk => (⟨hk, hk.2⟩ : _ ∧ k_ ≠ gb200))) (fun _ hk => hk.2) (.int .i64 (wrap64 (1000000 - t198)))) (fun _ hk => hk.2) (.int .i64 (wrap64 (1000000 - t199)))) (fun _ hk => ⟨hk.1.1, hk.1.2⟩)⟩
              have n1_ : Aside0 (((w81.setCell ⟨gb200, 0, none⟩ (.int .i64 (wrap64 (1000000 - t198)))).setCell ⟨gb200, 1, none⟩ (.int .i64 (wrap64 (1000000 - t199)))).heap[gb196]? = some (.cells #[.int .i64 x197000_2, .int .i64 x197001_2] 30 (0, 0))) := ⟨by (with_reducible repeat (first | refine blk_drewN ?_ _ | refine blk_drew ?_ | refine blk_alloc ?_ _)); refine blk_far ?_ NB196_200.out _; (with_reducible repeat (first | refine blk_drewN ?_ _ | refine blk_drew ?_ | refine blk_alloc ?_ _)); refine blk_far ?_ NB196_200.out _; (with_reducible repeat (first | refine blk_drewN ?_ _ | refine blk_drew ?_ | refine blk_alloc ?_ _)); exact BK196.out⟩
              have n2_ : Aside0 (((w81.setCell ⟨gb200, 0, none⟩ (.int .i64 (wrap64 (1000000 - t198)))).setCell ⟨gb200, 1, none⟩ (.int .i64 (wrap64 (1000000 - t199)))).heap[gb200]? = some (.cells #[.int .i64 (wrap64 (1000000 - t198)), .int .i64 (wrap64 (1000000 - t199))] 30 (0, 0))) := ⟨by (with_reducible repeat (first | refine blk_drewN ?_ _ | refine blk_drew ?_ | refine blk_alloc ?_ _)); refine blk_put (cs := #[.int .i64 (wrap64 (1000000 - t198)), .int .i64 0]) ?_ 1 _ rfl; (with_reducible repeat (first | refine blk_drewN ?_ _ | refine blk_drew ?_ | refine blk_alloc ?_ _)); refine blk_put (cs := #[.int .i64 0, .int .i64 0]) ?_ 0 _ rfl; (with_reducible repeat (first | refine blk_drewN ?_ _ | refine blk_drew ?_ | refine blk_alloc ?_ _)); exact BK200.out⟩
              have n3_ : Aside0 (Below w.heap.size w ((w81.setCell ⟨gb200, 0, none⟩ (.int .i64 (wrap64 (1000000 - t198)))).setCell ⟨gb200, 1, none⟩ (.int .i64 (wrap64 (1000000 - t199))))) := ⟨by repeat (first | (with_reducible first | exact HB.out | apply below_alloc | apply pw_below_drewN | apply below_drew1 | refine below_set ?_ GE196.out | refine below_set ?_ GE200.out) | exact HB.out)⟩
              (try clear HO_6)
              (try clear BK196)
              (try clear BK200)
              (try clear HB)
              generalize ((w81.setCell ⟨gb200, 0, none⟩ (.int .i64 (wrap64 (1000000 - t198)))).setCell ⟨gb200, 1, none⟩ (.int .i64 (wrap64 (1000000 - t199)))) = w84 at n0_ n1_ n2_ n3_ ⊢
              have HO_6 := n0_
              have BK196 := n1_
              have BK200 := n2_
              have HB := n3_
              clear n0_ n1_ n2_ n3_
              have n0_ := Aside0.mk (Kd.R_drew HO_6.out)
              have n1_ := Aside0.mk (blk_drew BK196.out)
              have n2_ := Aside0.mk (blk_drew BK200.out)
              have n3_ := Aside0.mk (below_drew1 HB.out)
              clear HO_6
              clear BK196
              clear BK200
              clear HB
              have HO_6 := n0_
              have BK196 := n1_
              have BK200 := n2_
              have HB := n3_
              clear n0_ n1_ n2_ n3_
              refine start_ (n := 11) (S := fun w' => w'.cell? ⟨gb200, 0, none⟩ = some (.int .i64 (wrap64 (1000000 - t198))) ∧ w'.cell? ⟨gb200, 1, none⟩ = some (.int .i64 (wrap64 (1000000 - t199)))) (ds := []) #[false, false, false, false, false, false, false, false, false, false, false] (by kernel_rfl) rfl rfl ⟨(blk_cell BK200.out 0).trans rfl, (blk_cell BK200.out 1).trans rfl⟩ (fun hHeld => ?_); refine with_tabW impl_CurveOf.tab16 impl_CurveOf.bits16 (fun HT_ HW_ => ?_)
              generalize w84.drew = w85 at HO_6 BK196 BK200 HB hHeld ⊢
              refine pure_ (i := 1) (N := some 54) (v := ?_) (a' := ?_) #[false, true, false, false, false, false, false, false, false, false, false] rfl rfl (any_of HT_.out (by kernel_rfl)) (fun _ _ _ h => h) (Or.inl ⟨by rfl, ?_⟩) ?_ ?_
              rotate_left
              ·
               intro w'
               go_simp
               with_reducible rfl
              rotate_left
              ·
               simp only [Act.put, sa_, sb_, sc_, i64_w, i32_w]
               rfl
              refine pure_ (i := 2) (N := some 55) (v := ?_) (a' := ?_) #[false, true, true, false, false, false, false, false, false, false, false] rfl rfl (any_of HT_.out (by kernel_rfl)) (fun _ _ _ h => h) (Or.inl ⟨by rfl, ?_⟩) ?_ ?_
              rotate_left
              ·
               intro w'
               go_simp
               with_reducible rfl
              rotate_left
              ·
               simp only [Act.put, sa_, sb_, sc_, i64_w, i32_w]
               rfl
              refine take_ (i := 0) (N := some 53) (v := ?_) (a' := ?_) #[true, true, true, false, false, false, false, false, false, false, false] rfl rfl (take_ofW HT_.out HW_.out (by kernel_rfl)) (fun _ _ _ h => h) (Or.inl ⟨by rfl, ?_⟩) hHeld ?_ ?_
              rotate_left
              ·
               rintro w' ⟨s0, s1⟩
               go_simp
               with_reducible rfl
              rotate_left
              ·
               simp only [Act.put, sa_, sb_, sc_, i64_w, i32_w]
               rfl
              refine join_ (σ := Nat) 2 #[true, true, true, true, true, true, true, true, true, false, false] (fun s_ => [(56, .agg #[.int .i64 t201, .int .i64 t202]), (57, .tuple #[.agg #[.int .i64 t203, .int .i64 t204], .iface 91 (.pointer (some Sent.a))]), (12, .pointer (some ⟨s_, 0, none⟩)), (52, .tuple #[.agg #[.int .i64 t203, .int .i64 t204], .iface 91 (.pointer (some Sent.a))]), (58, .agg #[.int .i64 t203, .int .i64 t204]), (59, .iface 91 (.pointer (some Sent.a)))]) (fun s_ w' => (w'.cell? ⟨gb200, 0, none⟩ = some (.int .i64 (wrap64 (1000000 - t198))) ∧ w'.cell? ⟨gb200, 1, none⟩ = some (.int .i64 (wrap64 (1000000 - t199)))) ∧ (Kd.R k30 30 w' w.heap.size (fun k_ => k_ ≠ gb196 ∧ k_ ≠ gb200 ∧ k_ ≠ s_) u6 x6_2) ∧ (w'.heap[gb196]? = some (.cells #[.int .i64 x197000_2, .int .i64 x197001_2] 30 (0, 0))) ∧ (w'.heap[gb200]? = some (.cells #[.int .i64 (wrap64 (1000000 - t198)), .int .i64 (wrap64 (1000000 - t199))] 30 (0, 0))) ∧ (w'.heap[s_]? = some (.cells #[.int .i64 0, .int .i64 0] 30 (0, 0))) ∧ (w.heap.size ≤ s_) ∧ (w.heap.size ≤ s_) ∧ (gb196 ≠ s_) ∧ (s_ ≠ gb196) ∧ (gb200 ≠ s_) ∧ (s_ ≠ gb200) ∧ (Below w.heap.size w w')) ?_ ?_
              rotate_left
              ·
               intro hCont
               refine two_ (i := 3) (j := 8) (Ni := some 56) (Nj := some 12) #[true, true, true, true, false, false, false, false, false, false, false] #[true, true, true, false, false, false, false, false, true, false, false] rfl rfl rfl rfl (two_of HT_.out (by kernel_rfl)) (by decide) (by decide) (fun K hK => ?_) (fun K hK => ?_)
               ·
                skip
                refine goes_ Tryd.func27 (by kernel_rfl) rfl #[.int .i64 (wrap64 (1000000 + (wrap64 (100 * (rd l0 x33_2)))))] (by rfl) rfl rfl (by (try simp only [List.map_toArray, List.map_cons, List.map_nil]); first | done | rfl | (simp only [List.length_drop, List.length_take]; rfl)) ?_
                with_reducible refine (impl_exactly.calls (wrap64 (1000000 + (wrap64 (100 * (rd l0 x33_2))))) t201 t202 _ A19.out).mono ?_
                rintro e w86 ⟨rfl, hb⟩
                refine ⟨_, rfl, ?_⟩
                have n0_ := Aside0.mk (Kd.R_below (kr_ HO_6) hb)
                have n1_ := Aside0.mk (blk_below (g := gb196) (o := .cells #[.int .i64 x197000_2, .int .i64 x197001_2] 30 (0, 0)) (bk_ BK196) hb)
                have n2_ := Aside0.mk (blk_below (g := gb200) (o := .cells #[.int .i64 (wrap64 (1000000 - t198)), .int .i64 (wrap64 (1000000 - t199))] 30 (0, 0)) (bk_ BK200) hb)
                have n3_ := Aside0.mk (below_step (bl_ HB) hb)
                clear HO_6
                clear BK196
                clear BK200
                clear HB
                have HO_6 := n0_
                have BK196 := n1_
                have BK200 := n2_
                have HB := n3_
                clear n0_ n1_ n2_ n3_
                (try clear hb)
                (try clear hb2)
                (try clear hk)
                (try clear hi)
                refine hK.out _ _ ⟨(blk_cell BK200.out 0).trans rfl, (blk_cell BK200.out 1).trans rfl⟩ (fun hHeld => ?_)
                clear hK K
                refine norm_ (a' := ?_) ?_ ?_
                rotate_left
                ·
                 show Act.put _ (some 56) _ = _
                 simp only [Act.put, sa_, sb_, sc_, i64_w, i32_w]
                 rfl
                refine two_ (i := 4) (j := 8) (Ni := some 57) (Nj := some 12) #[true, true, true, true, true, false, false, false, false, false, false] #[true, true, true, true, false, false, false, false, true, false, false] rfl rfl rfl rfl (two_of HT_.out (by kernel_rfl)) (by decide) (by decide) (fun K hK => ?_) (fun K hK => ?_)
                ·
                 skip
                 refine goes_ Tryd.func26 (by kernel_rfl) rfl #[.agg #[.int .i64 (wrap64 (1000000 - t198)), .int .i64 (wrap64 (1000000 - t199))], .agg #[.int .i64 t201, .int .i64 t202]] (by rfl) rfl rfl (by (try simp only [List.map_toArray, List.map_cons, List.map_nil]); first | done | rfl | (simp only [List.length_drop, List.length_take]; rfl)) ?_
                 with_reducible refine (impl_Range_through.calls (wrap64 (1000000 - t198)) (wrap64 (1000000 - t199)) t201 t202 t203 t204 (some q207) _ ?side1 A20.out).mono ?_
                 (case side1 => first | exact HTab.out | exact Tab.below HTab.out (bl_ HB))
                 rintro e w87 ⟨rfl, hb⟩
                 refine ⟨_, rfl, ?_⟩
                 have n0_ := Aside0.mk (Kd.R_below (kr_ HO_6) hb)
                 have n1_ := Aside0.mk (blk_below (g := gb196) (o := .cells #[.int .i64 x197000_2, .int .i64 x197001_2] 30 (0, 0)) (bk_ BK196) hb)
                 have n2_ := Aside0.mk (blk_below (g := gb200) (o := .cells #[.int .i64 (wrap64 (1000000 - t198)), .int .i64 (wrap64 (1000000 - t199))] 30 (0, 0)) (bk_ BK200) hb)
                 have n3_ := Aside0.mk (below_step (bl_ HB) hb)
                 clear HO_6
                 clear BK196
                 clear BK200
                 clear HB
                 have HO_6 := n0_
                 have BK196 := n1_
                 have BK200 := n2_
                 have HB := n3_
                 clear n0_ n1_ n2_ n3_
                 (try clear hb)
                 (try clear hb2)
                 (try clear hk)
                 (try clear hi)
                 (try simp only [errW_none, errW_some])
                 refine hK.out _ _ ⟨(blk_cell BK200.out 0).trans rfl, (blk_cell BK200.out 1).trans rfl⟩ (fun hHeld => ?_)
                 clear hK K
                 refine norm_ (a' := ?_) ?_ ?_
                 rotate_left
                 ·
                  show Act.put _ (some 57) _ = _
                  simp only [Act.put, sa_, sb_, sc_, i64_w, i32_w]
                  rfl
                 refine pure_ (i := 5) (N := some 52) (v := ?_) (a' := ?_) #[true, true, true, true, true, true, false, false, false, false, false] rfl rfl (any_of HT_.out (by kernel_rfl)) (fun _ _ _ h => h) (Or.inl ⟨by rfl, ?_⟩) ?_ ?_
                 rotate_left
                 ·
                  intro w'
                  go_simp
                  with_reducible rfl
                 rotate_left
                 ·
                  simp only [Act.put, sa_, sb_, sc_, i64_w, i32_w]
                  rfl
                 refine pure_ (i := 6) (N := some 58) (v := ?_) (a' := ?_) #[true, true, true, true, true, true, true, false, false, false, false] rfl rfl (any_of HT_.out (by kernel_rfl)) (fun _ _ _ h => h) (Or.inl ⟨by rfl, ?_⟩) ?_ ?_
                 rotate_left
                 ·
                  intro w'
                  go_simp
                  with_reducible rfl
                 rotate_left
                 ·
                  simp only [Act.put, sa_, sb_, sc_, i64_w, i32_w]
                  rfl
                 refine pure_ (i := 7) (N := some 59) (v := ?_) (a' := ?_) #[true, true, true, true, true, true, true, true, false, false, false] rfl rfl (any_of HT_.out (by kernel_rfl)) (fun _ _ _ h => h) (Or.inl ⟨by rfl, ?_⟩) ?_ ?_
                 rotate_left
                 ·
                  intro w'
                  go_simp
                  with_reducible rfl
                 rotate_left
                 ·
                  simp only [Act.put, sa_, sb_, sc_, i64_w, i32_w]
                  rfl
                 refine one_ (i := 8) (N := some 12) #[true, true, true, true, true, true, true, true, true, false, false] rfl rfl (one_of HT_.out (by kernel_rfl)) (by decide) (fun K hK => ?_)
                 refine box_step ?hg (N := 12) ?hd (cs := #[.int .i64 0, .int .i64 0]) (t := 30) ?hr ?_; (case hd => rfl); (case hg => rfl); (case hr => first | (go_simp; done) | (go_simp; rfl))
                 intro gb206 hg w88 hbox hb
                 have n0_ := Aside0.mk (Kd.R_below (Kd.R_elderB (kr_ HO_6) gb206 (Nat.le_of_eq hg.symm)) hb)
                 have n1_ := Aside0.mk (blk_below (g := gb196) (o := .cells #[.int .i64 x197000_2, .int .i64 x197001_2] 30 (0, 0)) (bk_ BK196) hb)
                 have n2_ := Aside0.mk (blk_below (g := gb200) (o := .cells #[.int .i64 (wrap64 (1000000 - t198)), .int .i64 (wrap64 (1000000 - t199))] 30 (0, 0)) (bk_ BK200) hb)
                 have n3_ := Aside0.mk (below_step (bl_ HB) hb)
                 have n4_ := Aside0.mk (hbox)
                 have n5_ := Aside0.mk ((by rw [hg]; exact (below_size (bl_ HB)) : w.heap.size ≤ gb206))
                 have n6_ := Aside0.mk ((by rw [hg]; exact (below_size (bl_ HB)) : w.heap.size ≤ gb206))
                 have n7_ := Aside0.mk ((by rw [hg]; exact Nat.ne_of_lt (blk_lt (g := gb196) (o := .cells #[.int .i64 x197000_2, .int .i64 x197001_2] 30 (0, 0)) (bk_ BK196)) : gb196 ≠ gb206))
                 have n8_ := Aside0.mk ((by rw [hg]; exact Nat.ne_of_gt (blk_lt (g := gb196) (o := .cells #[.int .i64 x197000_2, .int .i64 x197001_2] 30 (0, 0)) (bk_ BK196)) : gb206 ≠ gb196))
                 have n9_ := Aside0.mk ((by rw [hg]; exact Nat.ne_of_lt (blk_lt (g := gb200) (o := .cells #[.int .i64 (wrap64 (1000000 - t198)), .int .i64 (wrap64 (1000000 - t199))] 30 (0, 0)) (bk_ BK200)) : gb200 ≠ gb206))
                 have n10_ := Aside0.mk ((by rw [hg]; exact Nat.ne_of_gt (blk_lt (g := gb200) (o := .cells #[.int .i64 (wrap64 (1000000 - t198)), .int .i64 (wrap64 (1000000 - t199))] 30 (0, 0)) (bk_ BK200)) : gb206 ≠ gb200))
                 clear HO_6
                 clear BK196
                 clear BK200
                 clear HB
                 have HO_6 := n0_
                 have BK196 := n1_
                 have BK200 := n2_
                 have HB := n3_
                 have BK206 := n4_
                 have GW206 := n5_
                 have GE206 := n6_
                 have NB196_206 := n7_
                 have NB206_196 := n8_
                 have NB200_206 := n9_
                 have NB206_200 := n10_
                 clear n0_ n1_ n2_ n3_ n4_ n5_ n6_ n7_ n8_ n9_ n10_
                 clear hb hbox hg
                 refine hK.out _ _ ⟨(blk_cell BK200.out 0).trans rfl, (blk_cell BK200.out 1).trans rfl⟩ (fun hHeld => ?_)
                 clear hK K
                 refine norm_ (a' := ?_) ?_ ?_
                 rotate_left
                 ·
                  show Act.put _ (some 12) _ = _
                  simp only [Act.put, sa_, sb_, sc_, i64_w, i32_w]
                  rfl
                 exact norm_ (by simp only [putAll, Act.put, sa_, sb_, sc_]) (hCont (gb206) _ ⟨hHeld, (by (with_reducible repeat (first | apply Kd.R_alloc | apply Kd.R_drewN | apply Kd.R_drew)); exact Kd.R_mono HO_6.out (fun _ hk => ⟨hk.1.1, ⟨hk.1.2, hk.2⟩⟩)), (bk_ BK196), (bk_ BK200), (bk_ BK206), GW206.out, GE206.out, NB196_206.out, NB206_196.out, NB200_206.out, NB206_200.out, (bl_ HB)⟩)
                ·
                 skip
                 refine box_step ?hg (N := 12) ?hd (cs := #[.int .i64 0, .int .i64 0]) (t := 30) ?hr ?_; (case hd => rfl); (case hg => rfl); (case hr => first | (go_simp; done) | (go_simp; rfl))
                 intro gb206 hg w87 hbox hb
                 have n0_ := Aside0.mk (Kd.R_below (Kd.R_elderB (kr_ HO_6) gb206 (Nat.le_of_eq hg.symm)) hb)
                 have n1_ := Aside0.mk (blk_below (g := gb196) (o := .cells #[.int .i64 x197000_2, .int .i64 x197001_2] 30 (0, 0)) (bk_ BK196) hb)
                 have n2_ := Aside0.mk (blk_below (g := gb200) (o := .cells #[.int .i64 (wrap64 (1000000 - t198)), .int .i64 (wrap64 (1000000 - t199))] 30 (0, 0)) (bk_ BK200) hb)
                 have n3_ := Aside0.mk (below_step (bl_ HB) hb)
                 have n4_ := Aside0.mk (hbox)
                 have n5_ := Aside0.mk ((by rw [hg]; exact (below_size (bl_ HB)) : w.heap.size ≤ gb206))
                 have n6_ := Aside0.mk ((by rw [hg]; exact (below_size (bl_ HB)) : w.heap.size ≤ gb206))
                 have n7_ := Aside0.mk ((by rw [hg]; exact Nat.ne_of_lt (blk_lt (g := gb196) (o := .cells #[.int .i64 x197000_2, .int .i64 x197001_2] 30 (0, 0)) (bk_ BK196)) : gb196 ≠ gb206))
                 have n8_ := Aside0.mk ((by rw [hg]; exact Nat.ne_of_gt (blk_lt (g := gb196) (o := .cells #[.int .i64 x197000_2, .int .i64 x197001_2] 30 (0, 0)) (bk_ BK196)) : gb206 ≠ gb196))
                 have n9_ := Aside0.mk ((by rw [hg]; exact Nat.ne_of_lt (blk_lt (g := gb200) (o := .cells #[.int .i64 (wrap64 (1000000 - t198)), .int .i64 (wrap64 (1000000 - t199))] 30 (0, 0)) (bk_ BK200)) : gb200 ≠ gb206))
                 have n10_ := Aside0.mk ((by rw [hg]; exact Nat.ne_of_gt (blk_lt (g := gb200) (o := .cells #[.int .i64 (wrap64 (1000000 - t198)), .int .i64 (wrap64 (1000000 - t199))] 30 (0, 0)) (bk_ BK200)) : gb206 ≠ gb200))
                 clear HO_6
                 clear BK196
                 clear BK200
                 clear HB
                 have HO_6 := n0_
                 have BK196 := n1_
                 have BK200 := n2_
                 have HB := n3_
                 have BK206 := n4_
                 have GW206 := n5_
                 have GE206 := n6_
                 have NB196_206 := n7_
                 have NB206_196 := n8_
                 have NB200_206 := n9_
                 have NB206_200 := n10_
                 clear n0_ n1_ n2_ n3_ n4_ n5_ n6_ n7_ n8_ n9_ n10_
                 clear hb hbox hg
                 refine hK.out _ _ ⟨(blk_cell BK200.out 0).trans rfl, (blk_cell BK200.out 1).trans rfl⟩ (fun hHeld => ?_)
                 clear hK K
                 refine norm_ (a' := ?_) ?_ ?_
                 rotate_left
                 ·
                  show Act.put _ (some 12) _ = _
                  simp only [Act.put, sa_, sb_, sc_, i64_w, i32_w]
                  rfl
                 refine one_ (i := 4) (N := some 57) #[true, true, true, true, true, false, false, false, true, false, false] rfl rfl (one_of HT_.out (by kernel_rfl)) (by decide) (fun K hK => ?_)
                 refine goes_ Tryd.func26 (by kernel_rfl) rfl #[.agg #[.int .i64 (wrap64 (1000000 - t198)), .int .i64 (wrap64 (1000000 - t199))], .agg #[.int .i64 t201, .int .i64 t202]] (by rfl) rfl rfl (by (try simp only [List.map_toArray, List.map_cons, List.map_nil]); first | done | rfl | (simp only [List.length_drop, List.length_take]; rfl)) ?_
                 with_reducible refine (impl_Range_through.calls (wrap64 (1000000 - t198)) (wrap64 (1000000 - t199)) t201 t202 t203 t204 (some q207) _ ?side1 A20.out).mono ?_
                 (case side1 => first | exact HTab.out | exact Tab.below HTab.out (bl_ HB))
                 rintro e w88 ⟨rfl, hb⟩
                 refine ⟨_, rfl, ?_⟩
                 have n0_ := Aside0.mk (Kd.R_below (kr_ HO_6) hb)
                 have n1_ := Aside0.mk (blk_below (g := gb196) (o := .cells #[.int .i64 x197000_2, .int .i64 x197001_2] 30 (0, 0)) (bk_ BK196) hb)
                 have n2_ := Aside0.mk (blk_below (g := gb200) (o := .cells #[.int .i64 (wrap64 (1000000 - t198)), .int .i64 (wrap64 (1000000 - t199))] 30 (0, 0)) (bk_ BK200) hb)
                 have n3_ := Aside0.mk (blk_below (g := gb206) (o := .cells #[.int .i64 0, .int .i64 0] 30 (0, 0)) (bk_ BK206) hb)
                 have n4_ := Aside0.mk (below_step (bl_ HB) hb)
                 clear HO_6
                 clear BK196
                 clear BK200
                 clear BK206
                 clear HB
                 have HO_6 := n0_
                 have BK196 := n1_
                 have BK200 := n2_
                 have BK206 := n3_
                 have HB := n4_
                 clear n0_ n1_ n2_ n3_ n4_
                 (try clear hb)
                 (try clear hb2)
                 (try clear hk)
                 (try clear hi)
                 (try simp only [errW_none, errW_some])
                 refine hK.out _ _ ⟨(blk_cell BK200.out 0).trans rfl, (blk_cell BK200.out 1).trans rfl⟩ (fun hHeld => ?_)
                 clear hK K
                 refine norm_ (a' := ?_) ?_ ?_
                 rotate_left
                 ·
                  show Act.put _ (some 57) _ = _
                  simp only [Act.put, sa_, sb_, sc_, i64_w, i32_w]
                  rfl
                 refine pure_ (i := 5) (N := some 52) (v := ?_) (a' := ?_) #[true, true, true, true, true, true, false, false, true, false, false] rfl rfl (any_of HT_.out (by kernel_rfl)) (fun _ _ _ h => h) (Or.inl ⟨by rfl, ?_⟩) ?_ ?_
                 rotate_left
                 ·
                  intro w'
                  go_simp
                  with_reducible rfl
                 rotate_left
                 ·
                  simp only [Act.put, sa_, sb_, sc_, i64_w, i32_w]
                  rfl
                 refine pure_ (i := 6) (N := some 58) (v := ?_) (a' := ?_) #[true, true, true, true, true, true, true, false, true, false, false] rfl rfl (any_of HT_.out (by kernel_rfl)) (fun _ _ _ h => h) (Or.inl ⟨by rfl, ?_⟩) ?_ ?_
                 rotate_left
                 ·
                  intro w'
                  go_simp
                  with_reducible rfl
                 rotate_left
                 ·
                  simp only [Act.put, sa_, sb_, sc_, i64_w, i32_w]
                  rfl
                 refine pure_ (i := 7) (N := some 59) (v := ?_) (a' := ?_) #[true, true, true, true, true, true, true, true, true, false, false] rfl rfl (any_of HT_.out (by kernel_rfl)) (fun _ _ _ h => h) (Or.inl ⟨by rfl, ?_⟩) ?_ ?_
                 rotate_left
                 ·
                  intro w'
                  go_simp
                  with_reducible rfl
                 rotate_left
                 ·
                  simp only [Act.put, sa_, sb_, sc_, i64_w, i32_w]
                  rfl
                 exact norm_ (by simp only [putAll, Act.put, sa_, sb_, sc_]) (hCont (gb206) _ ⟨hHeld, (by (with_reducible repeat (first | apply Kd.R_alloc | apply Kd.R_drewN | apply Kd.R_drew)); exact Kd.R_mono HO_6.out (fun _ hk => ⟨hk.1.1, ⟨hk.1.2, hk.2⟩⟩)), (bk_ BK196), (bk_ BK200), (bk_ BK206), GW206.out, GE206.out, NB196_206.out, NB206_196.out, NB200_206.out, NB206_200.out, (bl_ HB)⟩)
               ·
                skip
                refine box_step ?hg (N := 12) ?hd (cs := #[.int .i64 0, .int .i64 0]) (t := 30) ?hr ?_; (case hd => rfl); (case hg => rfl); (case hr => first | (go_simp; done) | (go_simp; rfl))
                intro gb206 hg w86 hbox hb
                have n0_ := Aside0.mk (Kd.R_below (Kd.R_elderB (kr_ HO_6) gb206 (Nat.le_of_eq hg.symm)) hb)
                have n1_ := Aside0.mk (blk_below (g := gb196) (o := .cells #[.int .i64 x197000_2, .int .i64 x197001_2] 30 (0, 0)) (bk_ BK196) hb)
                have n2_ := Aside0.mk (blk_below (g := gb200) (o := .cells #[.int .i64 (wrap64 (1000000 - t198)), .int .i64 (wrap64 (1000000 - t199))] 30 (0, 0)) (bk_ BK200) hb)
                have n3_ := Aside0.mk (below_step (bl_ HB) hb)
                have n4_ := Aside0.mk (hbox)
                have n5_ := Aside0.mk ((by rw [hg]; exact (below_size (bl_ HB)) : w.heap.size ≤ gb206))
                have n6_ := Aside0.mk ((by rw [hg]; exact (below_size (bl_ HB)) : w.heap.size ≤ gb206))
                have n7_ := Aside0.mk ((by rw [hg]; exact Nat.ne_of_lt (blk_lt (g := gb196) (o := .cells #[.int .i64 x197000_2, .int .i64 x197001_2] 30 (0, 0)) (bk_ BK196)) : gb196 ≠ gb206))
                have n8_ := Aside0.mk ((by rw [hg]; exact Nat.ne_of_gt (blk_lt (g := gb196) (o := .cells #[.int .i64 x197000_2, .int .i64 x197001_2] 30 (0, 0)) (bk_ BK196)) : gb206 ≠ gb196))
                have n9_ := Aside0.mk ((by rw [hg]; exact Nat.ne_of_lt (blk_lt (g := gb200) (o := .cells #[.int .i64 (wrap64 (1000000 - t198)), .int .i64 (wrap64 (1000000 - t199))] 30 (0, 0)) (bk_ BK200)) : gb200 ≠ gb206))
                have n10_ := Aside0.mk ((by rw [hg]; exact Nat.ne_of_gt (blk_lt (g := gb200) (o := .cells #[.int .i64 (wrap64 (1000000 - t198)), .int .i64 (wrap64 (1000000 - t199))] 30 (0, 0)) (bk_ BK200)) : gb206 ≠ gb200))
                clear HO_6
                clear BK196
                clear BK200
                clear HB
                have HO_6 := n0_
                have BK196 := n1_
                have BK200 := n2_
                have HB := n3_
                have BK206 := n4_
                have GW206 := n5_
                have GE206 := n6_
                have NB196_206 := n7_
                have NB206_196 := n8_
                have NB200_206 := n9_
                have NB206_200 := n10_
                clear n0_ n1_ n2_ n3_ n4_ n5_ n6_ n7_ n8_ n9_ n10_
                clear hb hbox hg
                refine hK.out _ _ ⟨(blk_cell BK200.out 0).trans rfl, (blk_cell BK200.out 1).trans rfl⟩ (fun hHeld => ?_)
                clear hK K
                refine norm_ (a' := ?_) ?_ ?_
                rotate_left
                ·
                 show Act.put _ (some 12) _ = _
                 simp only [Act.put, sa_, sb_, sc_, i64_w, i32_w]
                 rfl
                refine one_ (i := 3) (N := some 56) #[true, true, true, true, false, false, false, false, true, false, false] rfl rfl (one_of HT_.out (by kernel_rfl)) (by decide) (fun K hK => ?_)
                refine goes_ Tryd.func27 (by kernel_rfl) rfl #[.int .i64 (wrap64 (1000000 + (wrap64 (100 * (rd l0 x33_2)))))] (by rfl) rfl rfl (by (try simp only [List.map_toArray, List.map_cons, List.map_nil]); first | done | rfl | (simp only [List.length_drop, List.length_take]; rfl)) ?_
                with_reducible refine (impl_exactly.calls (wrap64 (1000000 + (wrap64 (100 * (rd l0 x33_2))))) t201 t202 _ A19.out).mono ?_
                rintro e w87 ⟨rfl, hb⟩
                refine ⟨_, rfl, ?_⟩
                have n0_ := Aside0.mk (Kd.R_below (kr_ HO_6) hb)
                have n1_ := Aside0.mk (blk_below (g := gb196) (o := .cells #[.int .i64 x197000_2, .int .i64 x197001_2] 30 (0, 0)) (bk_ BK196) hb)
                have n2_ := Aside0.mk (blk_below (g := gb200) (o := .cells #[.int .i64 (wrap64 (1000000 - t198)), .int .i64 (wrap64 (1000000 - t199))] 30 (0, 0)) (bk_ BK200) hb)
                have n3_ := Aside0.mk (blk_below (g := gb206) (o := .cells #[.int .i64 0, .int .i64 0] 30 (0, 0)) (bk_ BK206) hb)
                have n4_ := Aside0.mk (below_step (bl_ HB) hb)
                clear HO_6
                clear BK196
                clear BK200
                clear BK206
                clear HB
                have HO_6 := n0_
                have BK196 := n1_
                have BK200 := n2_
                have BK206 := n3_
                have HB := n4_
                clear n0_ n1_ n2_ n3_ n4_
                (try clear hb)
                (try clear hb2)
                (try clear hk)
                (try clear hi)
                refine hK.out _ _ ⟨(blk_cell BK200.out 0).trans rfl, (blk_cell BK200.out 1).trans rfl⟩ (fun hHeld => ?_)
                clear hK K
                refine norm_ (a' := ?_) ?_ ?_
                rotate_left
                ·
                 show Act.put _ (some 56) _ = _
                 simp only [Act.put, sa_, sb_, sc_, i64_w, i32_w]
                 rfl
                refine one_ (i := 4) (N := some 57) #[true, true, true, true, true, false, false, false, true, false, false] rfl rfl (one_of HT_.out (by kernel_rfl)) (by decide) (fun K hK => ?_)
                refine goes_ Tryd.func26 (by kernel_rfl) rfl #[.agg #[.int .i64 (wrap64 (1000000 - t198)), .int .i64 (wrap64 (1000000 - t199))], .agg #[.int .i64 t201, .int .i64 t202]] (by rfl) rfl rfl (by (try simp only [List.map_toArray, List.map_cons, List.map_nil]); first | done | rfl | (simp only [List.length_drop, List.length_take]; rfl)) ?_
                with_reducible refine (impl_Range_through.calls (wrap64 (1000000 - t198)) (wrap64 (1000000 - t199)) t201 t202 t203 t204 (some q207) _ ?side1 A20.out).mono ?_
                (case side1 => first | exact HTab.out | exact Tab.below HTab.out (bl_ HB))
                rintro e w88 ⟨rfl, hb⟩
                refine ⟨_, rfl, ?_⟩
                have n0_ := Aside0.mk (Kd.R_below (kr_ HO_6) hb)
                have n1_ := Aside0.mk (blk_below (g := gb196) (o := .cells #[.int .i64 x197000_2, .int .i64 x197001_2] 30 (0, 0)) (bk_ BK196) hb)
                have n2_ := Aside0.mk (blk_below (g := gb200) (o := .cells #[.int .i64 (wrap64 (1000000 - t198)), .int .i64 (wrap64 (1000000 - t199))] 30 (0, 0)) (bk_ BK200) hb)
                have n3_ := Aside0.mk (blk_below (g := gb206) (o := .cells #[.int .i64 0, .int .i64 0] 30 (0, 0)) (bk_ BK206) hb)
                have n4_ := Aside0.mk (below_step (bl_ HB) hb)
                clear HO_6
                clear BK196
                clear BK200
                clear BK206
                clear HB
                have HO_6 := n0_
                have BK196 := n1_
                have BK200 := n2_
                have BK206 := n3_
                have HB := n4_
                clear n0_ n1_ n2_ n3_ n4_
                (try clear hb)
                (try clear hb2)
                (try clear hk)
                (try clear hi)
                (try simp only [errW_none, errW_some])
                refine hK.out _ _ ⟨(blk_cell BK200.out 0).trans rfl, (blk_cell BK200.out 1).trans rfl⟩ (fun hHeld => ?_)
                clear hK K
                refine norm_ (a' := ?_) ?_ ?_
                rotate_left
                ·
                 show Act.put _ (some 57) _ = _
                 simp only [Act.put, sa_, sb_, sc_, i64_w, i32_w]
                 rfl
                refine pure_ (i := 5) (N := some 52) (v := ?_) (a' := ?_) #[true, true, true, true, true, true, false, false, true, false, false] rfl rfl (any_of HT_.out (by kernel_rfl)) (fun _ _ _ h => h) (Or.inl ⟨by rfl, ?_⟩) ?_ ?_
                rotate_left
                ·
                 intro w'
                 go_simp
                 with_reducible rfl
                rotate_left
                ·
                 simp only [Act.put, sa_, sb_, sc_, i64_w, i32_w]
                 rfl
                refine pure_ (i := 6) (N := some 58) (v := ?_) (a' := ?_) #[true, true, true, true, true, true, true, false, true, false, false] rfl rfl (any_of HT_.out (by kernel_rfl)) (fun _ _ _ h => h) (Or.inl ⟨by rfl, ?_⟩) ?_ ?_
                rotate_left
                ·
                 intro w'
                 go_simp
                 with_reducible rfl
                rotate_left
                ·
                 simp only [Act.put, sa_, sb_, sc_, i64_w, i32_w]
                 rfl
                refine pure_ (i := 7) (N := some 59) (v := ?_) (a' := ?_) #[true, true, true, true, true, true, true, true, true, false, false] rfl rfl (any_of HT_.out (by kernel_rfl)) (fun _ _ _ h => h) (Or.inl ⟨by rfl, ?_⟩) ?_ ?_
                rotate_left
                ·
                 intro w'
                 go_simp
                 with_reducible rfl
                rotate_left
                ·
                 simp only [Act.put, sa_, sb_, sc_, i64_w, i32_w]
                 rfl
                exact norm_ (by simp only [putAll, Act.put, sa_, sb_, sc_]) (hCont (gb206) _ ⟨hHeld, (by (with_reducible repeat (first | apply Kd.R_alloc | apply Kd.R_drewN | apply Kd.R_drew)); exact Kd.R_mono HO_6.out (fun _ hk => ⟨hk.1.1, ⟨hk.1.2, hk.2⟩⟩)), (bk_ BK196), (bk_ BK200), (bk_ BK206), GW206.out, GE206.out, NB196_206.out, NB206_196.out, NB200_206.out, NB206_200.out, (bl_ HB)⟩)
              rintro gb206 w89 ⟨hS_, h0_, h1_, h2_, h3_, h4_, h5_, h6_, h7_, h8_, h9_, h10_⟩
              have n0_ : Aside0 (Kd.R k30 30 w89 w.heap.size (fun k_ => k_ ≠ gb196 ∧ k_ ≠ gb200 ∧ k_ ≠ gb206) u6 x6_2) := ⟨h0_⟩
              have n1_ : Aside0 (w89.heap[gb196]? = some (.cells #[.int .i64 x197000_2, .int .i64 x197001_2] 30 (0, 0))) := ⟨h1_⟩
              have n2_ : Aside0 (w89.heap[gb200]? = some (.cells #[.int .i64 (wrap64 (1000000 - t198)), .int .i64 (wrap64 (1000000 - t199))] 30 (0, 0))) := ⟨h2_⟩
              have n3_ : Aside0 (w89.heap[gb206]? = some (.cells #[.int .i64 0, .int .i64 0] 30 (0, 0))) := ⟨h3_⟩
              have n4_ : Aside0 (w.heap.size ≤ gb206) := ⟨h4_⟩
              have n5_ : Aside0 (w.heap.size ≤ gb206) := ⟨h5_⟩
              have n6_ : Aside0 (gb196 ≠ gb206) := ⟨h6_⟩
              have n7_ : Aside0 (gb206 ≠ gb196) := ⟨h7_⟩
              have n8_ : Aside0 (gb200 ≠ gb206) := ⟨h8_⟩
              have n9_ : Aside0 (gb206 ≠ gb200) := ⟨h9_⟩
              have n10_ : Aside0 (Below w.heap.size w w89) := ⟨h10_⟩
              clear HO_6
              clear BK196
              clear BK200
              clear HB
              clear h0_ h1_ h2_ h3_ h4_ h5_ h6_ h7_ h8_ h9_ h10_
              have HO_6 := n0_
              have BK196 := n1_
              have BK200 := n2_
              have BK206 := n3_
              have GW206 := n4_
              have GE206 := n5_
              have NB196_206 := n6_
              have NB206_196 := n7_
              have NB200_206 := n8_
              have NB206_200 := n9_
              have HB := n10_
              clear n0_ n1_ n2_ n3_ n4_ n5_ n6_ n7_ n8_ n9_ n10_
              have hHeld : w89.cell? ⟨gb200, 0, none⟩ = some (.int .i64 (wrap64 (1000000 - t198))) ∧ w89.cell? ⟨gb200, 1, none⟩ = some (.int .i64 (wrap64 (1000000 - t199))) := hS_
              refine norm_ (a' := ?_) ?_ ?_
              rotate_left
              ·
               simp only [putAll, Act.put, sa_, sb_, sc_]
               rfl
              refine one_ (i := 9) (N := none) #[true, true, true, true, true, true, true, true, true, true, false] rfl rfl (one_of HT_.out (by kernel_rfl)) (by decide) (fun K hK => ?_)
              have hs90 : w89.cell? ⟨gb206, 0, none⟩ = some (.int .i64 0) := (blk_cell BK206.out 0).trans rfl
              have hfs90 := blk_frozen BK206.out 0
              have hns90_0 := NB196_206.out
              have hns90_1 := NB200_206.out
              have hms90_0 := NB206_196.out
              have hms90_1 := NB206_200.out
              have hs91 : w89.cell? ⟨gb206, 1, none⟩ = some (.int .i64 0) := (blk_cell BK206.out 1).trans rfl
              have hfs91 := blk_frozen BK206.out 1
              have hns91_0 := NB196_206.out
              have hns91_1 := NB200_206.out
              have hms91_0 := NB206_196.out
              have hms91_1 := NB206_200.out
              refine skip_ (w1 := ?_) (by rfl) rfl ?_ ?_
              rotate_left
              ·
               go_simp
               rfl
              refine hK.out _ _ ⟨((cell_far (p := ⟨gb206, _, none⟩) NB200_206.out _).trans (((cell_far (p := ⟨gb206, _, none⟩) NB200_206.out _).trans (hHeld.1)))), ((cell_far (p := ⟨gb206, _, none⟩) NB200_206.out _).trans (((cell_far (p := ⟨gb206, _, none⟩) NB200_206.out _).trans (hHeld.2))))⟩ (fun hHeld => ?_)
              clear hK K
              refine pure_ (i := 10) (N := some 13) (v := ?_) (a' := ?_) #[true, true, true, true, true, true, true, true, true, true, true] rfl rfl (any_of HT_.out (by kernel_rfl)) (fun _ _ _ h => h) (Or.inl ⟨by rfl, ?_⟩) ?_ ?_
              rotate_left
              ·
               intro w'
               go_simp
               with_reducible rfl
              rotate_left
              ·
               simp only [Act.put, sa_, sb_, sc_, i64_w, i32_w]
               rfl
              refine done_ (done_of HT_.out (by kernel_rfl)) ?_
              have hnb92 := NB200_196.out
              have hnc92 := NB196_200.out
              have hnb93 := NB200_206.out
              have hnc93 := NB206_200.out
              have hcz94_0 : w89.cell? ⟨gb200, 0, none⟩ = some (.int .i64 (wrap64 (1000000 - t198))) := (blk_cell BK200.out 0).trans rfl
              have hcz94_1 : w89.cell? ⟨gb200, 1, none⟩ = some (.int .i64 (wrap64 (1000000 - t199))) := (blk_cell BK200.out 1).trans rfl
              have hfz94_0 := blk_frozen BK200.out 0
              have hfz94_1 := blk_frozen BK200.out 1
              try go_wp2
              go_ret2
              exact ⟨_, by first | rfl | (simp [errW_none, errW_some] <;> rfl) | (simp [*, errW_none, errW_some] <;> rfl), by first | exact Kd.R_nil _ _ _ _ _ | exact Kd.N_nil _ _ _ _ _ | exact Kd.V_nil _ _ _ _ _ | exact Kd.Q_nil _ _ _ _ _ | exact Kd.S_nil _ _ _ _ _, by repeat (first | (with_reducible first | exact HB.out | apply below_alloc | apply pw_below_drewN | apply below_drew1 | refine below_set ?_ GE196.out | refine below_set ?_ GE200.out | refine below_set ?_ GE206.out) | exact HB.out)⟩
           ·
            rw [if_neg c16] at H
            exact absurd H (by simp)
          ·
           rw [if_neg c15] at H
           exact absurd H (by simp)
         ·
          rw [if_neg c14] at H
          have c14b0 : decide (x33_2 < (l0.length : Int)) = false := decide_eq_false c14
          clear c14
          simp only [Option.some.injEq, Prod.mk.injEq] at H
          obtain ⟨rfl, rfl⟩ := H
          go_wp2
          go_ret2
          exact ⟨_, by first | rfl | (simp [errW_none, errW_some] <;> rfl) | (simp [*, errW_none, errW_some] <;> rfl), by (with_reducible repeat (first | apply Kd.R_alloc | apply Kd.R_drewN | apply Kd.R_drew)); exact Kd.R_mono HO_6.out (fun _ hk => trivial), by repeat (first | (with_reducible first | exact HB.out | apply below_alloc | apply pw_below_drewN | apply below_drew1 | refine below_set ?_ GE196.out) | exact HB.out)⟩
      ·
       rw [if_neg c10] at H
       exact absurd H (by simp)
     ·
      rw [if_neg c9] at H
      exact absurd H (by simp)
 ·
  replace c3 := Bool.eq_false_iff.mpr c3
  subst c3
  have H1 : (some (([] : List (S30)), false)) = some (r1, r2) := by rw [if_neg (show ¬ (false = true) by decide)] at H; exact H
  clear H
  have H := H1
  clear H1
  simp only [Option.some.injEq, Prod.mk.injEq] at H
  obtain ⟨rfl, rfl⟩ := H
  go_enter Tryd.func7, Tryd.ntmps7
  go_wp2_with (first | ((with_reducible refine gate_callee (f := 22) rfl ?_); refine goesL_ (some 16) rfl rfl Tryd.func22 (by kernel_rfl) rfl #[.int .i64 (l0.length : Int), .int .i64 1, .int .i64 12] rfl (by (try simp only [List.map_toArray, List.map_cons, List.map_nil]); first | done | rfl | (simp only [List.length_drop, List.length_take]; rfl)) ?_; (with_reducible refine (impl_within.calls (l0.length : Int) 1 12 false _ A2.out).mono ?_); rintro e w' ⟨rfl, ⟨nd, rfl⟩⟩; refine ⟨_, rfl, ?_⟩))
  go_ret2
  exact ⟨_, by first | rfl | (simp [errW_none, errW_some] <;> rfl) | (simp [*, errW_none, errW_some] <;> rfl), by first | exact Kd.R_nil _ _ _ _ _ | exact Kd.N_nil _ _ _ _ _ | exact Kd.V_nil _ _ _ _ _ | exact Kd.Q_nil _ _ _ _ _ | exact Kd.S_nil _ _ _ _ _, by repeat (first | (with_reducible first | exact HB.out | apply below_alloc | apply pw_below_drewN | apply below_drew1) | exact HB.out)⟩

end Go.Proofs.YtbofmoelmhbpoaaDoor.Q

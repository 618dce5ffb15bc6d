/- Printed by a program (bprint.py) out of the translation: for each Go function a Lean function, and the proof that the call comes to its answers. Conditions: they stand in each theorem. -/
import Derived.Test.YtbofmoelmhbpoaaDoorQx0
import Derived.Test.YtbofmoelmhbpoaaDoorQx1
import Derived.Test.YtbofmoelmhbpoaaDoorQx5
namespace Go.Proofs.YtbofmoelmhbpoaaDoor.Q
open Go.RowKit Go.Proofs.YtbofmoelmhbpoaaDoorW.PrintWords Go.Proofs.YtbofmoelmhbpoaaDoorW.PrintLast Go.Proofs.YtbofmoelmhbpoaaDoorW.PrintMore
attribute [local go_sem] max2_int min2_int max_two min_two max_three min_three max_four min_four   -- for this text's walks alone
set_option linter.unusedVariables false
set_option linter.unusedSimpArgs false

attribute [local go_sem high] eqA30
set_option linter.unusedSectionVars false
variable [Sent]

/-! ### spec_curve: function 29 -/
def spec_curve.l0 : Nat → List Int → List (S30) → Int → Int → Int → Option ((List (S30)) × Bool)
  | 0, _, _, _, _, _ => none
  | k + 1, x0, x4, x5, x6, x7 => if x7 < (x0.length : Int) then (if 0 ≤ x7 then ((spec_ceilDiv.f (wrap64 ((wrap64 (100 * (rd x0 x7))) * x6)) 1000000).bind fun t226 => ((spec_floorDiv.f (wrap64 ((wrap64 (100 * (rd x0 x7))) * x5)) 1000000).bind fun t227 => (if (wrap64 (1000000 - t226)) ≤ 0 then (some (([] : List (S30)), false)) else ((spec_growth.f (wrap64 (100 * (rd x0 x7)))).bind fun bt229 => ((spec_divRange.f (wrap64 (1000000 - t226)) (wrap64 (1000000 - t227)) bt229.1 bt229.2).bind fun bt231 => (if bt231.1 ≤ 0 then (some (([] : List (S30)), false)) else (if x4.length < 8796093022208 then (spec_curve.l0 k x0 (x4 ++ [(⟨bt231.1, bt231.2⟩ : S30)]) (wrap64 (x5 + bt231.1)) (wrap64 (x6 + bt231.2)) (wrap64 (x7 + 1))) else (none)))))))) else (none)) else (some (x4, true))
def spec_curve.f (k : Nat) (l0 : List Int) : Option ((List (S30)) × Bool) := spec_curve.l0 k l0 (([] : List (S30))) 0 0 0
theorem spec_curve.mono_l : ∀ k, (∀ y0 y1 y2 y3 y4, LeO (spec_curve.l0 k y0 y1 y2 y3 y4) (spec_curve.l0 (k + 1) y0 y1 y2 y3 y4))
  | 0 => fun _ _ _ _ _ r h => by simp [spec_curve.l0] at h
  | k + 1 => by
    have ih0 := spec_curve.mono_l k
    · intro y0 y1 y2 y3 y4
      unfold spec_curve.l0
      repeat' first
      | (with_reducible exact ih0 _ _ _ _ _)
      | (with_reducible exact LeO.refl _)
      | (with_reducible exact LeO.none _)
      | (with_reducible refine LeO.ite ?_ ?_)
      | (with_reducible refine LeO.bind ?_ (fun _ => ?_))
      | exact ih0 _ _ _ _ _
      | exact LeO.none _
      | refine LeO.ite ?_ ?_
      | refine LeO.bind ?_ (fun _ => ?_)
theorem spec_curve.mono : ∀ a0 k, LeO (spec_curve.f k a0) (spec_curve.f (k + 1) a0) := by
  intro a0 k
  have ih0 := spec_curve.mono_l k
  unfold spec_curve.f
  repeat' first
      | (with_reducible exact ih0 _ _ _ _ _)
      | (with_reducible exact LeO.refl _)
      | (with_reducible exact LeO.none _)
      | (with_reducible refine LeO.ite ?_ ?_)
      | (with_reducible refine LeO.bind ?_ (fun _ => ?_))
      | exact ih0 _ _ _ _ _
      | exact LeO.none _
      | refine LeO.ite ?_ ?_
      | refine LeO.bind ?_ (fun _ => ?_)
set_option maxHeartbeats 8000000 in
set_option maxRecDepth 100000 in
theorem spec_curve.calls (k : Nat) (A0 : Option Addr) (c0 : Nat) (l0 : List Int) (r1 : List (S30)) (r2 : Bool) (w : World) (hr0 : Kd.C (Kd.int .i64) w A0 l0.length l0) (hc0 : l0.length ≤ c0) (h : spec_curve.f k l0 = some (r1, r2)) :
    Calls Tryd.prog 29 #[.slice A0 l0.length c0] w fun e w' => ∃ v0_ : Value, e = .returned (.tuple #[v0_, .bool r2]) ∧ Kd.R k30 30 w' w.heap.size (fun _ => True) v0_ r1 ∧ Below w.heap.size w w' := by
  have hu30 := Tryd.underlying30
  have HR0 := Aside0.mk hr0
  have HC0 := Aside0.mk hc0
  clear hr0 hc0
  have HB := Aside0.mk (Below.refl w.heap.size w)
  have H : (spec_curve.l0 k l0 (([] : List (S30))) 0 0 0) = some (r1, r2) := h
  clear h
  obtain ⟨y222, hy222⟩ : ∃ y_ : List (S30), y_ = (([] : List (S30))) := ⟨_, rfl⟩
  replace H : (spec_curve.l0 k l0 y222 0 0 0) = some (r1, r2) := by first | (rw [hy222]; with_reducible exact H) | (have H2_ := (Option.bind_some _ _).symm.trans H; rw [hy222]; with_reducible exact H2_) | (have H2_ := (Option.bind_some _ _).symm.trans H; with_reducible exact H2_) | with_reducible exact H | (rw [hy222]; exact H) | exact H
  have Ny222 := Aside0.mk hy222
  clear hy222
  have H' := Aside0.mk H
  clear H
  go_enter Tryd.func29, Tryd.ntmps29
  go_wp2_with (first | ((with_reducible refine gate_dst (N := 11) rfl ?_); refine Kd.R_lit k30 _ 30 ?hg (N := 11) ?hd (xs := ([] : List (S30))) (inner := []) (ok := fun _ => True) (okp := fun _ => True) ?hr ?hp (fun _ hk => hk) trivial (Below.refl _ _) (Nat.le_refl _) (by simp) ?_; (case hd => rfl); (case hg => rfl); (case hr => first | (go_simp; done) | (go_simp; rfl)); (case hp => exact (Reps.none _ _)); intro v223 w2 ho3 hb hg_ hnew_; clear hg_ hnew_; (first | rw [← Ny222.out] at ho3 | (simp only [Int.reduceToNat] at ho3; rw [← Ny222.out] at ho3)); have n0_ := Aside0.mk (Kd.R_lower ho3 (below_size (bl_ HB))); have n1_ := Aside0.mk (below_step (bl_ HB) hb); clear HB; have HO224 := n0_; have HB := n1_; clear n0_ n1_; clear hb ho3))
  go_loopg [4, 5, 6, 7] k (fun kq v4 v5 v6 v7 w' => ∃ (x4_1 : List (S30)) (x5_1 : Int) (x6_1 : Int) (x7_1 : Int), v5 = .int .i64 x5_1 ∧ v6 = .int .i64 x6_1 ∧ v7 = .int .i64 x7_1 ∧ Aside0 (spec_curve.l0 kq l0 x4_1 x5_1 x6_1 x7_1 = some (r1, r2)) ∧ Aside0 (kq ≤ k) ∧ Aside0 (Kd.R k30 30 w' w.heap.size (fun _ => True) v4 x4_1) ∧ Aside0 (Below w.heap.size w w'))
  case atStart => exact ⟨(y222), (0), (0), (0), (by first | rfl | (simp; done) | (simp [*]; done)), (by first | rfl | (simp; done) | (simp [*]; done)), (by first | rfl | (simp; done) | (simp [*]; done)), H', ⟨Nat.le_refl _⟩, ⟨by (with_reducible repeat (first | apply Kd.R_alloc | apply Kd.R_drewN | apply Kd.R_drew)); exact HO224.out⟩, ⟨by repeat (first | (with_reducible first | exact HB.out | apply below_alloc | apply pw_below_drewN | apply below_drew1) | exact HB.out)⟩⟩
  case round =>
    clear H'
    try clear c2
    try clear p2
    obtain ⟨x4_1, x5_1, x6_1, x7_1, rfl, rfl, rfl, HA, HK1, HO_4, HB⟩ := hrel
    cases gk with
    | zero => exact absurd HA.out (by simp [spec_curve.l0])
    | succ k1 =>
      have H := HA.out
      clear HA
      simp only [spec_curve.l0] at H
      by_cases c4 : x7_1 < (l0.length : Int)
      · rw [if_pos c4] at H
        have c4b0 : decide (x7_1 < (l0.length : Int)) = true := decide_eq_true c4
        clear c4
        by_cases c5 : 0 ≤ x7_1
        · rw [if_pos c5] at H
          have c5b0 : decide (0 ≤ x7_1) = true := decide_eq_true c5
          clear c5
          replace H := Option.bind_eq_some_iff.mp H
          obtain ⟨t226, A60, H⟩ := H
          replace H : ((spec_floorDiv.f (wrap64 ((wrap64 (100 * (rd l0 x7_1))) * x5_1)) 1000000).bind fun t227 => (if (wrap64 (1000000 - t226)) ≤ 0 then (some (([] : List (S30)), false)) else ((spec_growth.f (wrap64 (100 * (rd l0 x7_1)))).bind fun bt229 => ((spec_divRange.f (wrap64 (1000000 - t226)) (wrap64 (1000000 - t227)) bt229.1 bt229.2).bind fun bt231 => (if bt231.1 ≤ 0 then (some (([] : List (S30)), false)) else (if x4_1.length < 8796093022208 then (spec_curve.l0 k1 l0 (x4_1 ++ [(⟨bt231.1, bt231.2⟩ : S30)]) (wrap64 (x5_1 + bt231.1)) (wrap64 (x6_1 + bt231.2)) (wrap64 (x7_1 + 1))) else (none))))))) = some (r1, r2) := H
          have A6 := Aside0.mk A60
          clear A60
          replace H := Option.bind_eq_some_iff.mp H
          obtain ⟨t227, A70, H⟩ := H
          replace H : (if (wrap64 (1000000 - t226)) ≤ 0 then (some (([] : List (S30)), false)) else ((spec_growth.f (wrap64 (100 * (rd l0 x7_1)))).bind fun bt229 => ((spec_divRange.f (wrap64 (1000000 - t226)) (wrap64 (1000000 - t227)) bt229.1 bt229.2).bind fun bt231 => (if bt231.1 ≤ 0 then (some (([] : List (S30)), false)) else (if x4_1.length < 8796093022208 then (spec_curve.l0 k1 l0 (x4_1 ++ [(⟨bt231.1, bt231.2⟩ : S30)]) (wrap64 (x5_1 + bt231.1)) (wrap64 (x6_1 + bt231.2)) (wrap64 (x7_1 + 1))) else (none)))))) = some (r1, r2) := H
          have A7 := Aside0.mk A70
          clear A70
          by_cases c8 : (wrap64 (1000000 - t226)) ≤ 0
          · rw [if_pos c8] at H
            have c8b0 : decide ((wrap64 (1000000 - t226)) ≤ 0) = true := decide_eq_true c8
            clear c8
            simp only [Option.some.injEq, Prod.mk.injEq] at H
            obtain ⟨rfl, rfl⟩ := H
            have p225 : 0 ≤ (x7_1 : Int) := of_decide_eq_true (by first | (with_reducible assumption) | assumption)
            have q225 : x7_1 < (l0.length : Int) := of_decide_eq_true (by first | (with_reducible assumption) | assumption)
            obtain ⟨ad225, e225, hx225_0⟩ := Kd.at_int HR0.out x7_1 p225 q225
            cases e225
            replace hx225_0 := (HB.out.cell (World.block_lt_of_cell? w _ hx225_0)).trans hx225_0
            replace p225 := eq_true p225
            replace q225 := eq_true q225
            go_wp2_with (first | ((with_reducible refine gate_callee (f := 49) rfl ?_); refine goesL_ (some 26) rfl rfl Tryd.func49 (by kernel_rfl) rfl #[.int .i64 (wrap64 ((wrap64 (100 * (rd l0 x7_1))) * x6_1)), .int .i64 1000000] rfl (by (try simp only [List.map_toArray, List.map_cons, List.map_nil]); first | done | rfl | (simp only [List.length_drop, List.length_take]; rfl)) ?_; (with_reducible refine (spec_ceilDiv.calls (wrap64 ((wrap64 (100 * (rd l0 x7_1))) * x6_1)) 1000000 t226 _ A6.out).mono ?_); rintro e w' ⟨rfl, ⟨nd, rfl⟩⟩; refine ⟨_, rfl, ?_⟩; (try (rw [drewN_self wr]; generalize hq_ : World.drewN wr _ = wr; have n0_ : Aside0 (Kd.R k30 30 wr w.heap.size (fun _ => True) u4 x4_1) := ⟨by rw [← hq_]; exact (kr_ HO_4)⟩; have n1_ : Aside0 (Below w.heap.size w wr) := ⟨by rw [← hq_]; exact (bl_ HB)⟩; clear HO_4 HB hq_; have HO_4 := n0_; have HB := n1_; clear n0_ n1_))) | ((with_reducible refine gate_callee (f := 50) rfl ?_); refine goesL_ (some 31) rfl rfl Tryd.func50 (by kernel_rfl) rfl #[.int .i64 (wrap64 ((wrap64 (100 * (rd l0 x7_1))) * x5_1)), .int .i64 1000000] rfl (by (try simp only [List.map_toArray, List.map_cons, List.map_nil]); first | done | rfl | (simp only [List.length_drop, List.length_take]; rfl)) ?_; (with_reducible refine (spec_floorDiv.calls (wrap64 ((wrap64 (100 * (rd l0 x7_1))) * x5_1)) 1000000 t227 _ A7.out).mono ?_); rintro e w' ⟨rfl, ⟨nd, rfl⟩⟩; refine ⟨_, rfl, ?_⟩; (try (rw [drewN_self wr]; generalize hq_ : World.drewN wr _ = wr; have n0_ : Aside0 (Kd.R k30 30 wr w.heap.size (fun _ => True) u4 x4_1) := ⟨by rw [← hq_]; exact (kr_ HO_4)⟩; have n1_ : Aside0 (Below w.heap.size w wr) := ⟨by rw [← hq_]; exact (bl_ HB)⟩; clear HO_4 HB hq_; have HO_4 := n0_; have HB := n1_; clear n0_ n1_))) | ((with_reducible refine gate_dst (N := 9) rfl ?_); refine box_event ?hg (N := 9) ?hd (cs := #[.int .i64 0, .int .i64 0]) (t := 30) ?hr ?_; (case hd => rfl); (case hg => rfl); (case hr => first | (go_simp; done) | (go_simp; rfl)); intro gb228 hg w9 hbox hb; have n0_ := Aside0.mk (Kd.R_below (Kd.R_elderB (kr_ HO_4) gb228 (Nat.le_of_eq hg.symm)) hb); have n1_ := Aside0.mk (below_step (bl_ HB) hb); have n2_ := Aside0.mk (hbox); have n3_ := Aside0.mk ((by rw [hg]; exact (below_size (bl_ HB)) : w.heap.size ≤ gb228)); have n4_ := Aside0.mk ((by rw [hg]; exact (below_size (bl_ HB)) : w.heap.size ≤ gb228)); clear HO_4; clear HB; have HO_4 := n0_; have HB := n1_; have BK228 := n2_; have GW228 := n3_; have GE228 := n4_; clear n0_ n1_ n2_ n3_ n4_; clear hb hbox hg; have hcz10_0 : w9.cell? ⟨gb228, 0, none⟩ = some (.int .i64 0) := (blk_cell BK228.out 0).trans rfl; have hcz10_1 : w9.cell? ⟨gb228, 1, none⟩ = some (.int .i64 0) := (blk_cell BK228.out 1).trans rfl; have hfz10_0 := blk_frozen BK228.out 0; have hfz10_1 := blk_frozen BK228.out 1))
            go_ret2
            exact ⟨_, by first | rfl | (simp [errW_none, errW_some] <;> rfl) | (simp [*, errW_none, errW_some] <;> rfl), by first | exact Kd.R_nil _ _ _ _ _ | exact Kd.N_nil _ _ _ _ _ | exact Kd.V_nil _ _ _ _ _ | exact Kd.Q_nil _ _ _ _ _ | exact Kd.S_nil _ _ _ _ _, by repeat (first | (with_reducible first | exact HB.out | apply below_alloc | apply pw_below_drewN | apply below_drew1 | refine below_set ?_ GE228.out) | exact HB.out)⟩
          · rw [if_neg c8] at H
            have c8b0 : decide ((wrap64 (1000000 - t226)) ≤ 0) = false := decide_eq_false c8
            clear c8
            replace H := Option.bind_eq_some_iff.mp H
            obtain ⟨⟨t229, t230⟩, A110, H⟩ := H
            replace H : ((spec_divRange.f (wrap64 (1000000 - t226)) (wrap64 (1000000 - t227)) t229 t230).bind fun bt231 => (if bt231.1 ≤ 0 then (some (([] : List (S30)), false)) else (if x4_1.length < 8796093022208 then (spec_curve.l0 k1 l0 (x4_1 ++ [(⟨bt231.1, bt231.2⟩ : S30)]) (wrap64 (x5_1 + bt231.1)) (wrap64 (x6_1 + bt231.2)) (wrap64 (x7_1 + 1))) else (none)))) = some (r1, r2) := H
            have A11 := Aside0.mk A110
            clear A110
            replace H := Option.bind_eq_some_iff.mp H
            obtain ⟨⟨t231, t232⟩, A120, H⟩ := H
            replace H : (if t231 ≤ 0 then (some (([] : List (S30)), false)) else (if x4_1.length < 8796093022208 then (spec_curve.l0 k1 l0 (x4_1 ++ [(⟨t231, t232⟩ : S30)]) (wrap64 (x5_1 + t231)) (wrap64 (x6_1 + t232)) (wrap64 (x7_1 + 1))) else (none))) = some (r1, r2) := H
            have A12 := Aside0.mk A120
            clear A120
            by_cases c13 : t231 ≤ 0
            · rw [if_pos c13] at H
              have c13b0 : decide (t231 ≤ 0) = true := decide_eq_true c13
              clear c13
              simp only [Option.some.injEq, Prod.mk.injEq] at H
              obtain ⟨rfl, rfl⟩ := H
              have p225 : 0 ≤ (x7_1 : Int) := of_decide_eq_true (by first | (with_reducible assumption) | assumption)
              have q225 : x7_1 < (l0.length : Int) := of_decide_eq_true (by first | (with_reducible assumption) | assumption)
              obtain ⟨ad225, e225, hx225_0⟩ := Kd.at_int HR0.out x7_1 p225 q225
              cases e225
              replace hx225_0 := (HB.out.cell (World.block_lt_of_cell? w _ hx225_0)).trans hx225_0
              replace p225 := eq_true p225
              replace q225 := eq_true q225
              try go_wp2_with (first | ((with_reducible refine gate_callee (f := 49) rfl ?_); refine goesL_ (some 26) rfl rfl Tryd.func49 (by kernel_rfl) rfl #[.int .i64 (wrap64 ((wrap64 (100 * (rd l0 x7_1))) * x6_1)), .int .i64 1000000] rfl (by (try simp only [List.map_toArray, List.map_cons, List.map_nil]); first | done | rfl | (simp only [List.length_drop, List.length_take]; rfl)) ?_; (with_reducible refine (spec_ceilDiv.calls (wrap64 ((wrap64 (100 * (rd l0 x7_1))) * x6_1)) 1000000 t226 _ A6.out).mono ?_); rintro e w' ⟨rfl, ⟨nd, rfl⟩⟩; refine ⟨_, rfl, ?_⟩; (try (rw [drewN_self wr]; generalize hq_ : World.drewN wr _ = wr; have n0_ : Aside0 (Kd.R k30 30 wr w.heap.size (fun _ => True) u4 x4_1) := ⟨by rw [← hq_]; exact (kr_ HO_4)⟩; have n1_ : Aside0 (Below w.heap.size w wr) := ⟨by rw [← hq_]; exact (bl_ HB)⟩; clear HO_4 HB hq_; have HO_4 := n0_; have HB := n1_; clear n0_ n1_))) | ((with_reducible refine gate_callee (f := 50) rfl ?_); refine goesL_ (some 31) rfl rfl Tryd.func50 (by kernel_rfl) rfl #[.int .i64 (wrap64 ((wrap64 (100 * (rd l0 x7_1))) * x5_1)), .int .i64 1000000] rfl (by (try simp only [List.map_toArray, List.map_cons, List.map_nil]); first | done | rfl | (simp only [List.length_drop, List.length_take]; rfl)) ?_; (with_reducible refine (spec_floorDiv.calls (wrap64 ((wrap64 (100 * (rd l0 x7_1))) * x5_1)) 1000000 t227 _ A7.out).mono ?_); rintro e w' ⟨rfl, ⟨nd, rfl⟩⟩; refine ⟨_, rfl, ?_⟩; (try (rw [drewN_self wr]; generalize hq_ : World.drewN wr _ = wr; have n0_ : Aside0 (Kd.R k30 30 wr w.heap.size (fun _ => True) u4 x4_1) := ⟨by rw [← hq_]; exact (kr_ HO_4)⟩; have n1_ : Aside0 (Below w.heap.size w wr) := ⟨by rw [← hq_]; exact (bl_ HB)⟩; clear HO_4 HB hq_; have HO_4 := n0_; have HB := n1_; clear n0_ n1_))) | ((with_reducible refine gate_dst (N := 9) rfl ?_); refine box_event ?hg (N := 9) ?hd (cs := #[.int .i64 0, .int .i64 0]) (t := 30) ?hr ?_; (case hd => rfl); (case hg => rfl); (case hr => first | (go_simp; done) | (go_simp; rfl)); intro gb228 hg w14 hbox hb; have n0_ := Aside0.mk (Kd.R_below (Kd.R_elderB (kr_ HO_4) gb228 (Nat.le_of_eq hg.symm)) hb); have n1_ := Aside0.mk (below_step (bl_ HB) hb); have n2_ := Aside0.mk (hbox); have n3_ := Aside0.mk ((by rw [hg]; exact (below_size (bl_ HB)) : w.heap.size ≤ gb228)); have n4_ := Aside0.mk ((by rw [hg]; exact (below_size (bl_ HB)) : w.heap.size ≤ gb228)); clear HO_4; clear HB; have HO_4 := n0_; have HB := n1_; have BK228 := n2_; have GW228 := n3_; have GE228 := n4_; clear n0_ n1_ n2_ n3_ n4_; clear hb hbox hg; have hcz15_0 : w14.cell? ⟨gb228, 0, none⟩ = some (.int .i64 0) := (blk_cell BK228.out 0).trans rfl; have hcz15_1 : w14.cell? ⟨gb228, 1, none⟩ = some (.int .i64 0) := (blk_cell BK228.out 1).trans rfl; have hfz15_0 := blk_frozen BK228.out 0; have hfz15_1 := blk_frozen BK228.out 1))
              have n0_ : Aside0 (Kd.R k30 30 ((w14.setCell ⟨gb228, 0, none⟩ (.int .i64 (wrap64 (1000000 - t226)))).setCell ⟨gb228, 1, none⟩ (.int .i64 (wrap64 (1000000 - t227)))) w.heap.size (fun k_ => k_ ≠ gb228) u4 x4_1) := ⟨by (with_reducible repeat (first | apply Kd.R_alloc | apply Kd.R_drewN | apply Kd.R_drew)); exact Kd.R_mono (Kd.R_far (p := ⟨gb228, 1, none⟩) (Kd.R_far (p := ⟨gb228, 0, none⟩) (Kd.R_mono HO_4.out (fun k_ hk => (⟨hk, hk.2⟩ : _ ∧ k_ ≠ gb228))) (fun _ hk => hk.2) (.int .i64 (wrap64 (1000000 - t226)))) (fun _ hk => hk.2) (.int .i64 (wrap64 (1000000 - t227)))) (fun _ hk => hk.1.2)⟩
              have n1_ : Aside0 (((w14.setCell ⟨gb228, 0, none⟩ (.int .i64 (wrap64 (1000000 - t226)))).setCell ⟨gb228, 1, none⟩ (.int .i64 (wrap64 (1000000 - t227)))).heap[gb228]? = some (.cells #[.int .i64 (wrap64 (1000000 - t226)), .int .i64 (wrap64 (1000000 - t227))] 30 (0, 0))) := ⟨by (with_reducible repeat (first | refine blk_drewN ?_ _ | refine blk_drew ?_ | refine blk_alloc ?_ _)); refine blk_put (cs := #[.int .i64 (wrap64 (1000000 - t226)), .int .i64 0]) ?_ 1 _ rfl; (with_reducible repeat (first | refine blk_drewN ?_ _ | refine blk_drew ?_ | refine blk_alloc ?_ _)); refine blk_put (cs := #[.int .i64 0, .int .i64 0]) ?_ 0 _ rfl; (with_reducible repeat (first | refine blk_drewN ?_ _ | refine blk_drew ?_ | refine blk_alloc ?_ _)); exact BK228.out⟩
              have n2_ : Aside0 (Below w.heap.size w ((w14.setCell ⟨gb228, 0, none⟩ (.int .i64 (wrap64 (1000000 - t226)))).setCell ⟨gb228, 1, none⟩ (.int .i64 (wrap64 (1000000 - t227))))) := ⟨by repeat (first | (with_reducible first | exact HB.out | apply below_alloc | apply pw_below_drewN | apply below_drew1 | refine below_set ?_ GE228.out) | exact HB.out)⟩
              (try clear HO_4)
              (try clear BK228)
              (try clear HB)
              generalize ((w14.setCell ⟨gb228, 0, none⟩ (.int .i64 (wrap64 (1000000 - t226)))).setCell ⟨gb228, 1, none⟩ (.int .i64 (wrap64 (1000000 - t227)))) = w16 at n0_ n1_ n2_ ⊢
              have HO_4 := n0_
              have BK228 := n1_
              have HB := n2_
              clear n0_ n1_ n2_
              have n0_ := Aside0.mk (Kd.R_drew HO_4.out)
              have n1_ := Aside0.mk (blk_drew BK228.out)
              have n2_ := Aside0.mk (below_drew1 HB.out)
              clear HO_4
              clear BK228
              clear HB
              have HO_4 := n0_
              have BK228 := n1_
              have HB := n2_
              clear n0_ n1_ n2_
              refine start_ (n := 6) (S := fun w' => w'.cell? ⟨gb228, 0, none⟩ = some (.int .i64 (wrap64 (1000000 - t226))) ∧ w'.cell? ⟨gb228, 1, none⟩ = some (.int .i64 (wrap64 (1000000 - t227)))) (ds := []) #[false, false, false, false, false, false] (by kernel_rfl) rfl rfl ⟨(blk_cell BK228.out 0).trans rfl, (blk_cell BK228.out 1).trans rfl⟩ (fun hHeld => ?_)
              generalize w16.drew = w17 at HO_4 BK228 HB hHeld ⊢
              refine pure_ (i := 1) (N := some 38) (v := ?_) (a' := ?_) #[false, true, false, false, false, false] rfl rfl (by kernel_rfl) (fun _ _ _ h => h) (Or.inl ⟨by rfl, ?_⟩) ?_ ?_
              rotate_left
              · intro w'
                go_simp
                with_reducible rfl
              rotate_left
              · simp only [Act.put, sa_, sb_, sc_, i64_w, i32_w]
                rfl
              refine take_ (i := 0) (N := some 37) (v := ?_) (a' := ?_) #[true, true, false, false, false, false] rfl rfl (by kernel_rfl) (fun _ _ _ h => h) (Or.inl ⟨by rfl, ?_⟩) hHeld ?_ ?_
              rotate_left
              · rintro w' ⟨s0, s1⟩
                go_simp
                with_reducible rfl
              rotate_left
              · simp only [Act.put, sa_, sb_, sc_, i64_w, i32_w]
                rfl
              refine join_ (σ := Nat) 1 #[true, true, true, true, true, false] (fun s_ => [(39, .agg #[.int .i64 t229, .int .i64 t230]), (40, .agg #[.int .i64 t231, .int .i64 t232]), (10, .pointer (some ⟨s_, 0, none⟩))]) (fun s_ w' => (w'.cell? ⟨gb228, 0, none⟩ = some (.int .i64 (wrap64 (1000000 - t226))) ∧ w'.cell? ⟨gb228, 1, none⟩ = some (.int .i64 (wrap64 (1000000 - t227)))) ∧ (Kd.R k30 30 w' w.heap.size (fun k_ => k_ ≠ gb228 ∧ k_ ≠ s_) u4 x4_1) ∧ (w'.heap[gb228]? = some (.cells #[.int .i64 (wrap64 (1000000 - t226)), .int .i64 (wrap64 (1000000 - t227))] 30 (0, 0))) ∧ (w'.heap[s_]? = some (.cells #[.int .i64 0, .int .i64 0] 30 (0, 0))) ∧ (w.heap.size ≤ s_) ∧ (w.heap.size ≤ s_) ∧ (gb228 ≠ s_) ∧ (s_ ≠ gb228) ∧ (Below w.heap.size w w')) ?_ ?_
              rotate_left
              · intro hCont
                refine two_ (i := 2) (j := 4) (Ni := some 39) (Nj := some 10) #[true, true, true, false, false, false] #[true, true, false, false, true, false] rfl rfl rfl rfl (by kernel_rfl) (by decide) (by decide) (fun K hK => ?_) (fun K hK => ?_)
                · skip
                  refine goes_ Tryd.func51 (by kernel_rfl) rfl #[.int .i64 (wrap64 (100 * (rd l0 x7_1)))] (by rfl) rfl rfl (by (try simp only [List.map_toArray, List.map_cons, List.map_nil]); first | done | rfl | (simp only [List.length_drop, List.length_take]; rfl)) ?_
                  with_reducible refine (spec_growth.calls (wrap64 (100 * (rd l0 x7_1))) t229 t230 _ A11.out).mono ?_
                  rintro e w18 ⟨rfl, hb⟩
                  refine ⟨_, rfl, ?_⟩
                  have n0_ := Aside0.mk (Kd.R_below (kr_ HO_4) hb)
                  have n1_ := Aside0.mk (blk_below (g := gb228) (o := .cells #[.int .i64 (wrap64 (1000000 - t226)), .int .i64 (wrap64 (1000000 - t227))] 30 (0, 0)) (bk_ BK228) hb)
                  have n2_ := Aside0.mk (below_step (bl_ HB) hb)
                  clear HO_4
                  clear BK228
                  clear HB
                  have HO_4 := n0_
                  have BK228 := n1_
                  have HB := n2_
                  clear n0_ n1_ n2_
                  (try clear hb)
                  (try clear hb2)
                  (try clear hk)
                  (try clear hi)
                  refine hK.out _ _ ⟨(blk_cell BK228.out 0).trans rfl, (blk_cell BK228.out 1).trans rfl⟩ (fun hHeld => ?_)
                  clear hK K
                  refine norm_ (a' := ?_) ?_ ?_
                  rotate_left
                  · show Act.put _ (some 39) _ = _
                    simp only [Act.put, sa_, sb_, sc_, i64_w, i32_w]
                    rfl
                  refine two_ (i := 3) (j := 4) (Ni := some 40) (Nj := some 10) #[true, true, true, true, false, false] #[true, true, true, false, true, false] rfl rfl rfl rfl (by kernel_rfl) (by decide) (by decide) (fun K hK => ?_) (fun K hK => ?_)
                  · skip
                    refine goes_ Tryd.func39 (by kernel_rfl) rfl #[.agg #[.int .i64 (wrap64 (1000000 - t226)), .int .i64 (wrap64 (1000000 - t227))], .agg #[.int .i64 t229, .int .i64 t230]] (by rfl) rfl rfl (by (try simp only [List.map_toArray, List.map_cons, List.map_nil]); first | done | rfl | (simp only [List.length_drop, List.length_take]; rfl)) ?_
                    with_reducible refine (spec_divRange.calls (wrap64 (1000000 - t226)) (wrap64 (1000000 - t227)) t229 t230 t231 t232 _ A12.out).mono ?_
                    rintro e w19 ⟨rfl, hb⟩
                    refine ⟨_, rfl, ?_⟩
                    have n0_ := Aside0.mk (Kd.R_below (kr_ HO_4) hb)
                    have n1_ := Aside0.mk (blk_below (g := gb228) (o := .cells #[.int .i64 (wrap64 (1000000 - t226)), .int .i64 (wrap64 (1000000 - t227))] 30 (0, 0)) (bk_ BK228) hb)
                    have n2_ := Aside0.mk (below_step (bl_ HB) hb)
                    clear HO_4
                    clear BK228
                    clear HB
                    have HO_4 := n0_
                    have BK228 := n1_
                    have HB := n2_
                    clear n0_ n1_ n2_
                    (try clear hb)
                    (try clear hb2)
                    (try clear hk)
                    (try clear hi)
                    refine hK.out _ _ ⟨(blk_cell BK228.out 0).trans rfl, (blk_cell BK228.out 1).trans rfl⟩ (fun hHeld => ?_)
                    clear hK K
                    refine norm_ (a' := ?_) ?_ ?_
                    rotate_left
                    · show Act.put _ (some 40) _ = _
                      simp only [Act.put, sa_, sb_, sc_, i64_w, i32_w]
                      rfl
                    refine one_ (i := 4) (N := some 10) #[true, true, true, true, true, false] rfl rfl (by kernel_rfl) (by decide) (fun K hK => ?_)
                    refine box_step ?hg (N := 10) ?hd (cs := #[.int .i64 0, .int .i64 0]) (t := 30) ?hr ?_; (case hd => rfl); (case hg => rfl); (case hr => first | (go_simp; done) | (go_simp; rfl))
                    intro gb233 hg w20 hbox hb
                    have n0_ := Aside0.mk (Kd.R_below (Kd.R_elderB (kr_ HO_4) gb233 (Nat.le_of_eq hg.symm)) hb)
                    have n1_ := Aside0.mk (blk_below (g := gb228) (o := .cells #[.int .i64 (wrap64 (1000000 - t226)), .int .i64 (wrap64 (1000000 - t227))] 30 (0, 0)) (bk_ BK228) hb)
                    have n2_ := Aside0.mk (below_step (bl_ HB) hb)
                    have n3_ := Aside0.mk (hbox)
                    have n4_ := Aside0.mk ((by rw [hg]; exact (below_size (bl_ HB)) : w.heap.size ≤ gb233))
                    have n5_ := Aside0.mk ((by rw [hg]; exact (below_size (bl_ HB)) : w.heap.size ≤ gb233))
                    have n6_ := Aside0.mk ((by rw [hg]; exact Nat.ne_of_lt (blk_lt (g := gb228) (o := .cells #[.int .i64 (wrap64 (1000000 - t226)), .int .i64 (wrap64 (1000000 - t227))] 30 (0, 0)) (bk_ BK228)) : gb228 ≠ gb233))
                    have n7_ := Aside0.mk ((by rw [hg]; exact Nat.ne_of_gt (blk_lt (g := gb228) (o := .cells #[.int .i64 (wrap64 (1000000 - t226)), .int .i64 (wrap64 (1000000 - t227))] 30 (0, 0)) (bk_ BK228)) : gb233 ≠ gb228))
                    clear HO_4
                    clear BK228
                    clear HB
                    have HO_4 := n0_
                    have BK228 := n1_
                    have HB := n2_
                    have BK233 := n3_
                    have GW233 := n4_
                    have GE233 := n5_
                    have NB228_233 := n6_
                    have NB233_228 := n7_
                    clear n0_ n1_ n2_ n3_ n4_ n5_ n6_ n7_
                    clear hb hbox hg
                    refine hK.out _ _ ⟨(blk_cell BK228.out 0).trans rfl, (blk_cell BK228.out 1).trans rfl⟩ (fun hHeld => ?_)
                    clear hK K
                    refine norm_ (a' := ?_) ?_ ?_
                    rotate_left
                    · show Act.put _ (some 10) _ = _
                      simp only [Act.put, sa_, sb_, sc_, i64_w, i32_w]
                      rfl
                    exact norm_ (by simp only [putAll, Act.put, sa_, sb_, sc_]) (hCont (gb233) _ ⟨hHeld, (kr_ HO_4), (bk_ BK228), (bk_ BK233), GW233.out, GE233.out, NB228_233.out, NB233_228.out, (bl_ HB)⟩)
                  · skip
                    refine box_step ?hg (N := 10) ?hd (cs := #[.int .i64 0, .int .i64 0]) (t := 30) ?hr ?_; (case hd => rfl); (case hg => rfl); (case hr => first | (go_simp; done) | (go_simp; rfl))
                    intro gb233 hg w19 hbox hb
                    have n0_ := Aside0.mk (Kd.R_below (Kd.R_elderB (kr_ HO_4) gb233 (Nat.le_of_eq hg.symm)) hb)
                    have n1_ := Aside0.mk (blk_below (g := gb228) (o := .cells #[.int .i64 (wrap64 (1000000 - t226)), .int .i64 (wrap64 (1000000 - t227))] 30 (0, 0)) (bk_ BK228) hb)
                    have n2_ := Aside0.mk (below_step (bl_ HB) hb)
                    have n3_ := Aside0.mk (hbox)
                    have n4_ := Aside0.mk ((by rw [hg]; exact (below_size (bl_ HB)) : w.heap.size ≤ gb233))
                    have n5_ := Aside0.mk ((by rw [hg]; exact (below_size (bl_ HB)) : w.heap.size ≤ gb233))
                    have n6_ := Aside0.mk ((by rw [hg]; exact Nat.ne_of_lt (blk_lt (g := gb228) (o := .cells #[.int .i64 (wrap64 (1000000 - t226)), .int .i64 (wrap64 (1000000 - t227))] 30 (0, 0)) (bk_ BK228)) : gb228 ≠ gb233))
                    have n7_ := Aside0.mk ((by rw [hg]; exact Nat.ne_of_gt (blk_lt (g := gb228) (o := .cells #[.int .i64 (wrap64 (1000000 - t226)), .int .i64 (wrap64 (1000000 - t227))] 30 (0, 0)) (bk_ BK228)) : gb233 ≠ gb228))
                    clear HO_4
                    clear BK228
                    clear HB
                    have HO_4 := n0_
                    have BK228 := n1_
                    have HB := n2_
                    have BK233 := n3_
                    have GW233 := n4_
                    have GE233 := n5_
                    have NB228_233 := n6_
                    have NB233_228 := n7_
                    clear n0_ n1_ n2_ n3_ n4_ n5_ n6_ n7_
                    clear hb hbox hg
                    refine hK.out _ _ ⟨(blk_cell BK228.out 0).trans rfl, (blk_cell BK228.out 1).trans rfl⟩ (fun hHeld => ?_)
                    clear hK K
                    refine norm_ (a' := ?_) ?_ ?_
                    rotate_left
                    · show Act.put _ (some 10) _ = _
                      simp only [Act.put, sa_, sb_, sc_, i64_w, i32_w]
                      rfl
                    refine one_ (i := 3) (N := some 40) #[true, true, true, true, true, false] rfl rfl (by kernel_rfl) (by decide) (fun K hK => ?_)
                    refine goes_ Tryd.func39 (by kernel_rfl) rfl #[.agg #[.int .i64 (wrap64 (1000000 - t226)), .int .i64 (wrap64 (1000000 - t227))], .agg #[.int .i64 t229, .int .i64 t230]] (by rfl) rfl rfl (by (try simp only [List.map_toArray, List.map_cons, List.map_nil]); first | done | rfl | (simp only [List.length_drop, List.length_take]; rfl)) ?_
                    with_reducible refine (spec_divRange.calls (wrap64 (1000000 - t226)) (wrap64 (1000000 - t227)) t229 t230 t231 t232 _ A12.out).mono ?_
                    rintro e w20 ⟨rfl, hb⟩
                    refine ⟨_, rfl, ?_⟩
                    have n0_ := Aside0.mk (Kd.R_below (kr_ HO_4) hb)
                    have n1_ := Aside0.mk (blk_below (g := gb228) (o := .cells #[.int .i64 (wrap64 (1000000 - t226)), .int .i64 (wrap64 (1000000 - t227))] 30 (0, 0)) (bk_ BK228) hb)
                    have n2_ := Aside0.mk (blk_below (g := gb233) (o := .cells #[.int .i64 0, .int .i64 0] 30 (0, 0)) (bk_ BK233) hb)
                    have n3_ := Aside0.mk (below_step (bl_ HB) hb)
                    clear HO_4
                    clear BK228
                    clear BK233
                    clear HB
                    have HO_4 := n0_
                    have BK228 := n1_
                    have BK233 := n2_
                    have HB := n3_
                    clear n0_ n1_ n2_ n3_
                    (try clear hb)
                    (try clear hb2)
                    (try clear hk)
                    (try clear hi)
                    refine hK.out _ _ ⟨(blk_cell BK228.out 0).trans rfl, (blk_cell BK228.out 1).trans rfl⟩ (fun hHeld => ?_)
                    clear hK K
                    refine norm_ (a' := ?_) ?_ ?_
                    rotate_left
                    · show Act.put _ (some 40) _ = _
                      simp only [Act.put, sa_, sb_, sc_, i64_w, i32_w]
                      rfl
                    exact norm_ (by simp only [putAll, Act.put, sa_, sb_, sc_]) (hCont (gb233) _ ⟨hHeld, (kr_ HO_4), (bk_ BK228), (bk_ BK233), GW233.out, GE233.out, NB228_233.out, NB233_228.out, (bl_ HB)⟩)
                · skip
                  refine box_step ?hg (N := 10) ?hd (cs := #[.int .i64 0, .int .i64 0]) (t := 30) ?hr ?_; (case hd => rfl); (case hg => rfl); (case hr => first | (go_simp; done) | (go_simp; rfl))
                  intro gb233 hg w18 hbox hb
                  have n0_ := Aside0.mk (Kd.R_below (Kd.R_elderB (kr_ HO_4) gb233 (Nat.le_of_eq hg.symm)) hb)
                  have n1_ := Aside0.mk (blk_below (g := gb228) (o := .cells #[.int .i64 (wrap64 (1000000 - t226)), .int .i64 (wrap64 (1000000 - t227))] 30 (0, 0)) (bk_ BK228) hb)
                  have n2_ := Aside0.mk (below_step (bl_ HB) hb)
                  have n3_ := Aside0.mk (hbox)
                  have n4_ := Aside0.mk ((by rw [hg]; exact (below_size (bl_ HB)) : w.heap.size ≤ gb233))
                  have n5_ := Aside0.mk ((by rw [hg]; exact (below_size (bl_ HB)) : w.heap.size ≤ gb233))
                  have n6_ := Aside0.mk ((by rw [hg]; exact Nat.ne_of_lt (blk_lt (g := gb228) (o := .cells #[.int .i64 (wrap64 (1000000 - t226)), .int .i64 (wrap64 (1000000 - t227))] 30 (0, 0)) (bk_ BK228)) : gb228 ≠ gb233))
                  have n7_ := Aside0.mk ((by rw [hg]; exact Nat.ne_of_gt (blk_lt (g := gb228) (o := .cells #[.int .i64 (wrap64 (1000000 - t226)), .int .i64 (wrap64 (1000000 - t227))] 30 (0, 0)) (bk_ BK228)) : gb233 ≠ gb228))
                  clear HO_4
                  clear BK228
                  clear HB
                  have HO_4 := n0_
                  have BK228 := n1_
                  have HB := n2_
                  have BK233 := n3_
                  have GW233 := n4_
                  have GE233 := n5_
                  have NB228_233 := n6_
                  have NB233_228 := n7_
                  clear n0_ n1_ n2_ n3_ n4_ n5_ n6_ n7_
                  clear hb hbox hg
                  refine hK.out _ _ ⟨(blk_cell BK228.out 0).trans rfl, (blk_cell BK228.out 1).trans rfl⟩ (fun hHeld => ?_)
                  clear hK K
                  refine norm_ (a' := ?_) ?_ ?_
                  rotate_left
                  · show Act.put _ (some 10) _ = _
                    simp only [Act.put, sa_, sb_, sc_, i64_w, i32_w]
                    rfl
                  refine one_ (i := 2) (N := some 39) #[true, true, true, false, true, false] rfl rfl (by kernel_rfl) (by decide) (fun K hK => ?_)
                  refine goes_ Tryd.func51 (by kernel_rfl) rfl #[.int .i64 (wrap64 (100 * (rd l0 x7_1)))] (by rfl) rfl rfl (by (try simp only [List.map_toArray, List.map_cons, List.map_nil]); first | done | rfl | (simp only [List.length_drop, List.length_take]; rfl)) ?_
                  with_reducible refine (spec_growth.calls (wrap64 (100 * (rd l0 x7_1))) t229 t230 _ A11.out).mono ?_
                  rintro e w19 ⟨rfl, hb⟩
                  refine ⟨_, rfl, ?_⟩
                  have n0_ := Aside0.mk (Kd.R_below (kr_ HO_4) hb)
                  have n1_ := Aside0.mk (blk_below (g := gb228) (o := .cells #[.int .i64 (wrap64 (1000000 - t226)), .int .i64 (wrap64 (1000000 - t227))] 30 (0, 0)) (bk_ BK228) hb)
                  have n2_ := Aside0.mk (blk_below (g := gb233) (o := .cells #[.int .i64 0, .int .i64 0] 30 (0, 0)) (bk_ BK233) hb)
                  have n3_ := Aside0.mk (below_step (bl_ HB) hb)
                  clear HO_4
                  clear BK228
                  clear BK233
                  clear HB
                  have HO_4 := n0_
                  have BK228 := n1_
                  have BK233 := n2_
                  have HB := n3_
                  clear n0_ n1_ n2_ n3_
                  (try clear hb)
                  (try clear hb2)
                  (try clear hk)
                  (try clear hi)
                  refine hK.out _ _ ⟨(blk_cell BK228.out 0).trans rfl, (blk_cell BK228.out 1).trans rfl⟩ (fun hHeld => ?_)
                  clear hK K
                  refine norm_ (a' := ?_) ?_ ?_
                  rotate_left
                  · show Act.put _ (some 39) _ = _
                    simp only [Act.put, sa_, sb_, sc_, i64_w, i32_w]
                    rfl
                  refine one_ (i := 3) (N := some 40) #[true, true, true, true, true, false] rfl rfl (by kernel_rfl) (by decide) (fun K hK => ?_)
                  refine goes_ Tryd.func39 (by kernel_rfl) rfl #[.agg #[.int .i64 (wrap64 (1000000 - t226)), .int .i64 (wrap64 (1000000 - t227))], .agg #[.int .i64 t229, .int .i64 t230]] (by rfl) rfl rfl (by (try simp only [List.map_toArray, List.map_cons, List.map_nil]); first | done | rfl | (simp only [List.length_drop, List.length_take]; rfl)) ?_
                  with_reducible refine (spec_divRange.calls (wrap64 (1000000 - t226)) (wrap64 (1000000 - t227)) t229 t230 t231 t232 _ A12.out).mono ?_
                  rintro e w20 ⟨rfl, hb⟩
                  refine ⟨_, rfl, ?_⟩
                  have n0_ := Aside0.mk (Kd.R_below (kr_ HO_4) hb)
                  have n1_ := Aside0.mk (blk_below (g := gb228) (o := .cells #[.int .i64 (wrap64 (1000000 - t226)), .int .i64 (wrap64 (1000000 - t227))] 30 (0, 0)) (bk_ BK228) hb)
                  have n2_ := Aside0.mk (blk_below (g := gb233) (o := .cells #[.int .i64 0, .int .i64 0] 30 (0, 0)) (bk_ BK233) hb)
                  have n3_ := Aside0.mk (below_step (bl_ HB) hb)
                  clear HO_4
                  clear BK228
                  clear BK233
                  clear HB
                  have HO_4 := n0_
                  have BK228 := n1_
                  have BK233 := n2_
                  have HB := n3_
                  clear n0_ n1_ n2_ n3_
                  (try clear hb)
                  (try clear hb2)
                  (try clear hk)
                  (try clear hi)
                  refine hK.out _ _ ⟨(blk_cell BK228.out 0).trans rfl, (blk_cell BK228.out 1).trans rfl⟩ (fun hHeld => ?_)
                  clear hK K
                  refine norm_ (a' := ?_) ?_ ?_
                  rotate_left
                  · show Act.put _ (some 40) _ = _
                    simp only [Act.put, sa_, sb_, sc_, i64_w, i32_w]
                    rfl
                  exact norm_ (by simp only [putAll, Act.put, sa_, sb_, sc_]) (hCont (gb233) _ ⟨hHeld, (kr_ HO_4), (bk_ BK228), (bk_ BK233), GW233.out, GE233.out, NB228_233.out, NB233_228.out, (bl_ HB)⟩)
              rintro gb233 w21 ⟨hS_, h0_, h1_, h2_, h3_, h4_, h5_, h6_, h7_⟩
              have n0_ : Aside0 (Kd.R k30 30 w21 w.heap.size (fun k_ => k_ ≠ gb228 ∧ k_ ≠ gb233) u4 x4_1) := ⟨h0_⟩
              have n1_ : Aside0 (w21.heap[gb228]? = some (.cells #[.int .i64 (wrap64 (1000000 - t226)), .int .i64 (wrap64 (1000000 - t227))] 30 (0, 0))) := ⟨h1_⟩
              have n2_ : Aside0 (w21.heap[gb233]? = some (.cells #[.int .i64 0, .int .i64 0] 30 (0, 0))) := ⟨h2_⟩
              have n3_ : Aside0 (w.heap.size ≤ gb233) := ⟨h3_⟩
              have n4_ : Aside0 (w.heap.size ≤ gb233) := ⟨h4_⟩
              have n5_ : Aside0 (gb228 ≠ gb233) := ⟨h5_⟩
              have n6_ : Aside0 (gb233 ≠ gb228) := ⟨h6_⟩
              have n7_ : Aside0 (Below w.heap.size w w21) := ⟨h7_⟩
              clear HO_4
              clear BK228
              clear HB
              clear h0_ h1_ h2_ h3_ h4_ h5_ h6_ h7_
              have HO_4 := n0_
              have BK228 := n1_
              have BK233 := n2_
              have GW233 := n3_
              have GE233 := n4_
              have NB228_233 := n5_
              have NB233_228 := n6_
              have HB := n7_
              clear n0_ n1_ n2_ n3_ n4_ n5_ n6_ n7_
              have hHeld : w21.cell? ⟨gb228, 0, none⟩ = some (.int .i64 (wrap64 (1000000 - t226))) ∧ w21.cell? ⟨gb228, 1, none⟩ = some (.int .i64 (wrap64 (1000000 - t227))) := hS_
              refine norm_ (a' := ?_) ?_ ?_
              rotate_left
              · simp only [putAll, Act.put, sa_, sb_, sc_]
                rfl
              refine one_ (i := 5) (N := none) #[true, true, true, true, true, true] rfl rfl (by kernel_rfl) (by decide) (fun K hK => ?_)
              have hs22 : w21.cell? ⟨gb233, 0, none⟩ = some (.int .i64 0) := (blk_cell BK233.out 0).trans rfl
              have hfs22 := blk_frozen BK233.out 0
              have hns22_0 := NB228_233.out
              have hms22_0 := NB233_228.out
              have hs23 : w21.cell? ⟨gb233, 1, none⟩ = some (.int .i64 0) := (blk_cell BK233.out 1).trans rfl
              have hfs23 := blk_frozen BK233.out 1
              have hns23_0 := NB228_233.out
              have hms23_0 := NB233_228.out
              refine skip_ (w1 := ?_) (by rfl) rfl ?_ ?_
              rotate_left
              · go_simp
                rfl
              refine hK.out _ _ ⟨((cell_far (p := ⟨gb233, _, none⟩) NB228_233.out _).trans (((cell_far (p := ⟨gb233, _, none⟩) NB228_233.out _).trans (hHeld.1)))), ((cell_far (p := ⟨gb233, _, none⟩) NB228_233.out _).trans (((cell_far (p := ⟨gb233, _, none⟩) NB228_233.out _).trans (hHeld.2))))⟩ (fun hHeld => ?_)
              clear hK K
              refine done_ (by kernel_rfl) ?_
              have hnb24 := NB233_228.out
              have hnc24 := NB228_233.out
              have hcz25_0 : w21.cell? ⟨gb233, 0, none⟩ = some (.int .i64 0) := (blk_cell BK233.out 0).trans rfl
              have hcz25_1 : w21.cell? ⟨gb233, 1, none⟩ = some (.int .i64 0) := (blk_cell BK233.out 1).trans rfl
              have hfz25_0 := blk_frozen BK233.out 0
              have hfz25_1 := blk_frozen BK233.out 1
              try go_wp2
              go_ret2
              exact ⟨_, by first | rfl | (simp [errW_none, errW_some] <;> rfl) | (simp [*, errW_none, errW_some] <;> rfl), by first | exact Kd.R_nil _ _ _ _ _ | exact Kd.N_nil _ _ _ _ _ | exact Kd.V_nil _ _ _ _ _ | exact Kd.Q_nil _ _ _ _ _ | exact Kd.S_nil _ _ _ _ _, by repeat (first | (with_reducible first | exact HB.out | apply below_alloc | apply pw_below_drewN | apply below_drew1 | refine below_set ?_ GE228.out | refine below_set ?_ GE233.out) | exact HB.out)⟩
            · rw [if_neg c13] at H
              have c13b0 : decide (t231 ≤ 0) = false := decide_eq_false c13
              clear c13
              by_cases c26 : x4_1.length < 8796093022208
              · rw [if_pos c26] at H
                have LMc26 := Aside0.mk c26
                clear c26
                obtain ⟨y234, hy234⟩ : ∃ y_ : List (S30), y_ = (x4_1 ++ [(⟨t231, t232⟩ : S30)]) := ⟨_, rfl⟩
                replace H : (spec_curve.l0 k1 l0 y234 (wrap64 (x5_1 + t231)) (wrap64 (x6_1 + t232)) (wrap64 (x7_1 + 1))) = some (r1, r2) := by first | (rw [hy234]; with_reducible exact H) | (have H2_ := (Option.bind_some _ _).symm.trans H; rw [hy234]; with_reducible exact H2_) | (have H2_ := (Option.bind_some _ _).symm.trans H; with_reducible exact H2_) | with_reducible exact H | (rw [hy234]; exact H) | exact H
                have Ny234 := Aside0.mk hy234
                clear hy234
                have H' := Aside0.mk H
                clear H
                have p225 : 0 ≤ (x7_1 : Int) := of_decide_eq_true (by first | (with_reducible assumption) | assumption)
                have q225 : x7_1 < (l0.length : Int) := of_decide_eq_true (by first | (with_reducible assumption) | assumption)
                obtain ⟨ad225, e225, hx225_0⟩ := Kd.at_int HR0.out x7_1 p225 q225
                cases e225
                replace hx225_0 := (HB.out.cell (World.block_lt_of_cell? w _ hx225_0)).trans hx225_0
                replace p225 := eq_true p225
                replace q225 := eq_true q225
                try go_wp2_with (first | ((with_reducible refine gate_callee (f := 49) rfl ?_); refine goesL_ (some 26) rfl rfl Tryd.func49 (by kernel_rfl) rfl #[.int .i64 (wrap64 ((wrap64 (100 * (rd l0 x7_1))) * x6_1)), .int .i64 1000000] rfl (by (try simp only [List.map_toArray, List.map_cons, List.map_nil]); first | done | rfl | (simp only [List.length_drop, List.length_take]; rfl)) ?_; (with_reducible refine (spec_ceilDiv.calls (wrap64 ((wrap64 (100 * (rd l0 x7_1))) * x6_1)) 1000000 t226 _ A6.out).mono ?_); rintro e w' ⟨rfl, ⟨nd, rfl⟩⟩; refine ⟨_, rfl, ?_⟩; (try (rw [drewN_self wr]; generalize hq_ : World.drewN wr _ = wr; have n0_ : Aside0 (Kd.R k30 30 wr w.heap.size (fun _ => True) u4 x4_1) := ⟨by rw [← hq_]; exact (kr_ HO_4)⟩; have n1_ : Aside0 (Below w.heap.size w wr) := ⟨by rw [← hq_]; exact (bl_ HB)⟩; clear HO_4 HB hq_; have HO_4 := n0_; have HB := n1_; clear n0_ n1_))) | ((with_reducible refine gate_callee (f := 50) rfl ?_); refine goesL_ (some 31) rfl rfl Tryd.func50 (by kernel_rfl) rfl #[.int .i64 (wrap64 ((wrap64 (100 * (rd l0 x7_1))) * x5_1)), .int .i64 1000000] rfl (by (try simp only [List.map_toArray, List.map_cons, List.map_nil]); first | done | rfl | (simp only [List.length_drop, List.length_take]; rfl)) ?_; (with_reducible refine (spec_floorDiv.calls (wrap64 ((wrap64 (100 * (rd l0 x7_1))) * x5_1)) 1000000 t227 _ A7.out).mono ?_); rintro e w' ⟨rfl, ⟨nd, rfl⟩⟩; refine ⟨_, rfl, ?_⟩; (try (rw [drewN_self wr]; generalize hq_ : World.drewN wr _ = wr; have n0_ : Aside0 (Kd.R k30 30 wr w.heap.size (fun _ => True) u4 x4_1) := ⟨by rw [← hq_]; exact (kr_ HO_4)⟩; have n1_ : Aside0 (Below w.heap.size w wr) := ⟨by rw [← hq_]; exact (bl_ HB)⟩; clear HO_4 HB hq_; have HO_4 := n0_; have HB := n1_; clear n0_ n1_))) | ((with_reducible refine gate_dst (N := 9) rfl ?_); refine box_event ?hg (N := 9) ?hd (cs := #[.int .i64 0, .int .i64 0]) (t := 30) ?hr ?_; (case hd => rfl); (case hg => rfl); (case hr => first | (go_simp; done) | (go_simp; rfl)); intro gb228 hg w27 hbox hb; have n0_ := Aside0.mk (Kd.R_below (Kd.R_elderB (kr_ HO_4) gb228 (Nat.le_of_eq hg.symm)) hb); have n1_ := Aside0.mk (below_step (bl_ HB) hb); have n2_ := Aside0.mk (hbox); have n3_ := Aside0.mk ((by rw [hg]; exact (below_size (bl_ HB)) : w.heap.size ≤ gb228)); have n4_ := Aside0.mk ((by rw [hg]; exact (below_size (bl_ HB)) : w.heap.size ≤ gb228)); clear HO_4; clear HB; have HO_4 := n0_; have HB := n1_; have BK228 := n2_; have GW228 := n3_; have GE228 := n4_; clear n0_ n1_ n2_ n3_ n4_; clear hb hbox hg; have hcz28_0 : w27.cell? ⟨gb228, 0, none⟩ = some (.int .i64 0) := (blk_cell BK228.out 0).trans rfl; have hcz28_1 : w27.cell? ⟨gb228, 1, none⟩ = some (.int .i64 0) := (blk_cell BK228.out 1).trans rfl; have hfz28_0 := blk_frozen BK228.out 0; have hfz28_1 := blk_frozen BK228.out 1))
                have n0_ : Aside0 (Kd.R k30 30 ((w27.setCell ⟨gb228, 0, none⟩ (.int .i64 (wrap64 (1000000 - t226)))).setCell ⟨gb228, 1, none⟩ (.int .i64 (wrap64 (1000000 - t227)))) w.heap.size (fun k_ => k_ ≠ gb228) u4 x4_1) := ⟨by (with_reducible repeat (first | apply Kd.R_alloc | apply Kd.R_drewN | apply Kd.R_drew)); exact Kd.R_mono (Kd.R_far (p := ⟨gb228, 1, none⟩) (Kd.R_far (p := ⟨gb228, 0, none⟩) (Kd.R_mono HO_4.out (fun k_ hk => (⟨hk, hk.2⟩ : _ ∧ k_ ≠ gb228))) (fun _ hk => hk.2) (.int .i64 (wrap64 (1000000 - t226)))) (fun _ hk => hk.2) (.int .i64 (wrap64 (1000000 - t227)))) (fun _ hk => hk.1.2)⟩
                have n1_ : Aside0 (((w27.setCell ⟨gb228, 0, none⟩ (.int .i64 (wrap64 (1000000 - t226)))).setCell ⟨gb228, 1, none⟩ (.int .i64 (wrap64 (1000000 - t227)))).heap[gb228]? = some (.cells #[.int .i64 (wrap64 (1000000 - t226)), .int .i64 (wrap64 (1000000 - t227))] 30 (0, 0))) := ⟨by (with_reducible repeat (first | refine blk_drewN ?_ _ | refine blk_drew ?_ | refine blk_alloc ?_ _)); refine blk_put (cs := #[.int .i64 (wrap64 (1000000 - t226)), .int .i64 0]) ?_ 1 _ rfl; (with_reducible repeat (first | refine blk_drewN ?_ _ | refine blk_drew ?_ | refine blk_alloc ?_ _)); refine blk_put (cs := #[.int .i64 0, .int .i64 0]) ?_ 0 _ rfl; (with_reducible repeat (first | refine blk_drewN ?_ _ | refine blk_drew ?_ | refine blk_alloc ?_ _)); exact BK228.out⟩
                have n2_ : Aside0 (Below w.heap.size w ((w27.setCell ⟨gb228, 0, none⟩ (.int .i64 (wrap64 (1000000 - t226)))).setCell ⟨gb228, 1, none⟩ (.int .i64 (wrap64 (1000000 - t227))))) := ⟨by repeat (first | (with_reducible first | exact HB.out | apply below_alloc | apply pw_below_drewN | apply below_drew1 | refine below_set ?_ GE228.out) | exact HB.out)⟩
                (try clear HO_4)
                (try clear BK228)
                (try clear HB)
                generalize ((w27.setCell ⟨gb228, 0, none⟩ (.int .i64 (wrap64 (1000000 - t226)))).setCell ⟨gb228, 1, none⟩ (.int .i64 (wrap64 (1000000 - t227)))) = w29 at n0_ n1_ n2_ ⊢
                have HO_4 := n0_
                have BK228 := n1_
                have HB := n2_
                clear n0_ n1_ n2_
                have n0_ := Aside0.mk (Kd.R_drew HO_4.out)
                have n1_ := Aside0.mk (blk_drew BK228.out)
                have n2_ := Aside0.mk (below_drew1 HB.out)
                clear HO_4
                clear BK228
                clear HB
                have HO_4 := n0_
                have BK228 := n1_
                have HB := n2_
                clear n0_ n1_ n2_
                refine start_ (n := 6) (S := fun w' => w'.cell? ⟨gb228, 0, none⟩ = some (.int .i64 (wrap64 (1000000 - t226))) ∧ w'.cell? ⟨gb228, 1, none⟩ = some (.int .i64 (wrap64 (1000000 - t227)))) (ds := []) #[false, false, false, false, false, false] (by kernel_rfl) rfl rfl ⟨(blk_cell BK228.out 0).trans rfl, (blk_cell BK228.out 1).trans rfl⟩ (fun hHeld => ?_)
                generalize w29.drew = w30 at HO_4 BK228 HB hHeld ⊢
                refine pure_ (i := 1) (N := some 38) (v := ?_) (a' := ?_) #[false, true, false, false, false, false] rfl rfl (by kernel_rfl) (fun _ _ _ h => h) (Or.inl ⟨by rfl, ?_⟩) ?_ ?_
                rotate_left
                · intro w'
                  go_simp
                  with_reducible rfl
                rotate_left
                · simp only [Act.put, sa_, sb_, sc_, i64_w, i32_w]
                  rfl
                refine take_ (i := 0) (N := some 37) (v := ?_) (a' := ?_) #[true, true, false, false, false, false] rfl rfl (by kernel_rfl) (fun _ _ _ h => h) (Or.inl ⟨by rfl, ?_⟩) hHeld ?_ ?_
                rotate_left
                · rintro w' ⟨s0, s1⟩
                  go_simp
                  with_reducible rfl
                rotate_left
                · simp only [Act.put, sa_, sb_, sc_, i64_w, i32_w]
                  rfl
                refine join_ (σ := Nat) 1 #[true, true, true, true, true, false] (fun s_ => [(39, .agg #[.int .i64 t229, .int .i64 t230]), (40, .agg #[.int .i64 t231, .int .i64 t232]), (10, .pointer (some ⟨s_, 0, none⟩))]) (fun s_ w' => (w'.cell? ⟨gb228, 0, none⟩ = some (.int .i64 (wrap64 (1000000 - t226))) ∧ w'.cell? ⟨gb228, 1, none⟩ = some (.int .i64 (wrap64 (1000000 - t227)))) ∧ (Kd.R k30 30 w' w.heap.size (fun k_ => k_ ≠ gb228 ∧ k_ ≠ s_) u4 x4_1) ∧ (w'.heap[gb228]? = some (.cells #[.int .i64 (wrap64 (1000000 - t226)), .int .i64 (wrap64 (1000000 - t227))] 30 (0, 0))) ∧ (w'.heap[s_]? = some (.cells #[.int .i64 0, .int .i64 0] 30 (0, 0))) ∧ (w.heap.size ≤ s_) ∧ (w.heap.size ≤ s_) ∧ (gb228 ≠ s_) ∧ (s_ ≠ gb228) ∧ (Below w.heap.size w w')) ?_ ?_
                rotate_left
                · intro hCont
                  refine two_ (i := 2) (j := 4) (Ni := some 39) (Nj := some 10) #[true, true, true, false, false, false] #[true, true, false, false, true, false] rfl rfl rfl rfl (by kernel_rfl) (by decide) (by decide) (fun K hK => ?_) (fun K hK => ?_)
                  · skip
                    refine goes_ Tryd.func51 (by kernel_rfl) rfl #[.int .i64 (wrap64 (100 * (rd l0 x7_1)))] (by rfl) rfl rfl (by (try simp only [List.map_toArray, List.map_cons, List.map_nil]); first | done | rfl | (simp only [List.length_drop, List.length_take]; rfl)) ?_
                    with_reducible refine (spec_growth.calls (wrap64 (100 * (rd l0 x7_1))) t229 t230 _ A11.out).mono ?_
                    rintro e w31 ⟨rfl, hb⟩
                    refine ⟨_, rfl, ?_⟩
                    have n0_ := Aside0.mk (Kd.R_below (kr_ HO_4) hb)
                    have n1_ := Aside0.mk (blk_below (g := gb228) (o := .cells #[.int .i64 (wrap64 (1000000 - t226)), .int .i64 (wrap64 (1000000 - t227))] 30 (0, 0)) (bk_ BK228) hb)
                    have n2_ := Aside0.mk (below_step (bl_ HB) hb)
                    clear HO_4
                    clear BK228
                    clear HB
                    have HO_4 := n0_
                    have BK228 := n1_
                    have HB := n2_
                    clear n0_ n1_ n2_
                    (try clear hb)
                    (try clear hb2)
                    (try clear hk)
                    (try clear hi)
                    refine hK.out _ _ ⟨(blk_cell BK228.out 0).trans rfl, (blk_cell BK228.out 1).trans rfl⟩ (fun hHeld => ?_)
                    clear hK K
                    refine norm_ (a' := ?_) ?_ ?_
                    rotate_left
                    · show Act.put _ (some 39) _ = _
                      simp only [Act.put, sa_, sb_, sc_, i64_w, i32_w]
                      rfl
                    refine two_ (i := 3) (j := 4) (Ni := some 40) (Nj := some 10) #[true, true, true, true, false, false] #[true, true, true, false, true, false] rfl rfl rfl rfl (by kernel_rfl) (by decide) (by decide) (fun K hK => ?_) (fun K hK => ?_)
                    · skip
                      refine goes_ Tryd.func39 (by kernel_rfl) rfl #[.agg #[.int .i64 (wrap64 (1000000 - t226)), .int .i64 (wrap64 (1000000 - t227))], .agg #[.int .i64 t229, .int .i64 t230]] (by rfl) rfl rfl (by (try simp only [List.map_toArray, List.map_cons, List.map_nil]); first | done | rfl | (simp only [List.length_drop, List.length_take]; rfl)) ?_
                      with_reducible refine (spec_divRange.calls (wrap64 (1000000 - t226)) (wrap64 (1000000 - t227)) t229 t230 t231 t232 _ A12.out).mono ?_
                      rintro e w32 ⟨rfl, hb⟩
                      refine ⟨_, rfl, ?_⟩
                      have n0_ := Aside0.mk (Kd.R_below (kr_ HO_4) hb)
                      have n1_ := Aside0.mk (blk_below (g := gb228) (o := .cells #[.int .i64 (wrap64 (1000000 - t226)), .int .i64 (wrap64 (1000000 - t227))] 30 (0, 0)) (bk_ BK228) hb)
                      have n2_ := Aside0.mk (below_step (bl_ HB) hb)
                      clear HO_4
                      clear BK228
                      clear HB
                      have HO_4 := n0_
                      have BK228 := n1_
                      have HB := n2_
                      clear n0_ n1_ n2_
                      (try clear hb)
                      (try clear hb2)
                      (try clear hk)
                      (try clear hi)
                      refine hK.out _ _ ⟨(blk_cell BK228.out 0).trans rfl, (blk_cell BK228.out 1).trans rfl⟩ (fun hHeld => ?_)
                      clear hK K
                      refine norm_ (a' := ?_) ?_ ?_
                      rotate_left
                      · show Act.put _ (some 40) _ = _
                        simp only [Act.put, sa_, sb_, sc_, i64_w, i32_w]
                        rfl
                      refine one_ (i := 4) (N := some 10) #[true, true, true, true, true, false] rfl rfl (by kernel_rfl) (by decide) (fun K hK => ?_)
                      refine box_step ?hg (N := 10) ?hd (cs := #[.int .i64 0, .int .i64 0]) (t := 30) ?hr ?_; (case hd => rfl); (case hg => rfl); (case hr => first | (go_simp; done) | (go_simp; rfl))
                      intro gb233 hg w33 hbox hb
                      have n0_ := Aside0.mk (Kd.R_below (Kd.R_elderB (kr_ HO_4) gb233 (Nat.le_of_eq hg.symm)) hb)
                      have n1_ := Aside0.mk (blk_below (g := gb228) (o := .cells #[.int .i64 (wrap64 (1000000 - t226)), .int .i64 (wrap64 (1000000 - t227))] 30 (0, 0)) (bk_ BK228) hb)
                      have n2_ := Aside0.mk (below_step (bl_ HB) hb)
                      have n3_ := Aside0.mk (hbox)
                      have n4_ := Aside0.mk ((by rw [hg]; exact (below_size (bl_ HB)) : w.heap.size ≤ gb233))
                      have n5_ := Aside0.mk ((by rw [hg]; exact (below_size (bl_ HB)) : w.heap.size ≤ gb233))
                      have n6_ := Aside0.mk ((by rw [hg]; exact Nat.ne_of_lt (blk_lt (g := gb228) (o := .cells #[.int .i64 (wrap64 (1000000 - t226)), .int .i64 (wrap64 (1000000 - t227))] 30 (0, 0)) (bk_ BK228)) : gb228 ≠ gb233))
                      have n7_ := Aside0.mk ((by rw [hg]; exact Nat.ne_of_gt (blk_lt (g := gb228) (o := .cells #[.int .i64 (wrap64 (1000000 - t226)), .int .i64 (wrap64 (1000000 - t227))] 30 (0, 0)) (bk_ BK228)) : gb233 ≠ gb228))
                      clear HO_4
                      clear BK228
                      clear HB
                      have HO_4 := n0_
                      have BK228 := n1_
                      have HB := n2_
                      have BK233 := n3_
                      have GW233 := n4_
                      have GE233 := n5_
                      have NB228_233 := n6_
                      have NB233_228 := n7_
                      clear n0_ n1_ n2_ n3_ n4_ n5_ n6_ n7_
                      clear hb hbox hg
                      refine hK.out _ _ ⟨(blk_cell BK228.out 0).trans rfl, (blk_cell BK228.out 1).trans rfl⟩ (fun hHeld => ?_)
                      clear hK K
                      refine norm_ (a' := ?_) ?_ ?_
                      rotate_left
                      · show Act.put _ (some 10) _ = _
                        simp only [Act.put, sa_, sb_, sc_, i64_w, i32_w]
                        rfl
                      exact norm_ (by simp only [putAll, Act.put, sa_, sb_, sc_]) (hCont (gb233) _ ⟨hHeld, (kr_ HO_4), (bk_ BK228), (bk_ BK233), GW233.out, GE233.out, NB228_233.out, NB233_228.out, (bl_ HB)⟩)
                    · skip
                      refine box_step ?hg (N := 10) ?hd (cs := #[.int .i64 0, .int .i64 0]) (t := 30) ?hr ?_; (case hd => rfl); (case hg => rfl); (case hr => first | (go_simp; done) | (go_simp; rfl))
                      intro gb233 hg w32 hbox hb
                      have n0_ := Aside0.mk (Kd.R_below (Kd.R_elderB (kr_ HO_4) gb233 (Nat.le_of_eq hg.symm)) hb)
                      have n1_ := Aside0.mk (blk_below (g := gb228) (o := .cells #[.int .i64 (wrap64 (1000000 - t226)), .int .i64 (wrap64 (1000000 - t227))] 30 (0, 0)) (bk_ BK228) hb)
                      have n2_ := Aside0.mk (below_step (bl_ HB) hb)
                      have n3_ := Aside0.mk (hbox)
                      have n4_ := Aside0.mk ((by rw [hg]; exact (below_size (bl_ HB)) : w.heap.size ≤ gb233))
                      have n5_ := Aside0.mk ((by rw [hg]; exact (below_size (bl_ HB)) : w.heap.size ≤ gb233))
                      have n6_ := Aside0.mk ((by rw [hg]; exact Nat.ne_of_lt (blk_lt (g := gb228) (o := .cells #[.int .i64 (wrap64 (1000000 - t226)), .int .i64 (wrap64 (1000000 - t227))] 30 (0, 0)) (bk_ BK228)) : gb228 ≠ gb233))
                      have n7_ := Aside0.mk ((by rw [hg]; exact Nat.ne_of_gt (blk_lt (g := gb228) (o := .cells #[.int .i64 (wrap64 (1000000 - t226)), .int .i64 (wrap64 (1000000 - t227))] 30 (0, 0)) (bk_ BK228)) : gb233 ≠ gb228))
                      clear HO_4
                      clear BK228
                      clear HB
                      have HO_4 := n0_
                      have BK228 := n1_
                      have HB := n2_
                      have BK233 := n3_
                      have GW233 := n4_
                      have GE233 := n5_
                      have NB228_233 := n6_
                      have NB233_228 := n7_
                      clear n0_ n1_ n2_ n3_ n4_ n5_ n6_ n7_
                      clear hb hbox hg
                      refine hK.out _ _ ⟨(blk_cell BK228.out 0).trans rfl, (blk_cell BK228.out 1).trans rfl⟩ (fun hHeld => ?_)
                      clear hK K
                      refine norm_ (a' := ?_) ?_ ?_
                      rotate_left
                      · show Act.put _ (some 10) _ = _
                        simp only [Act.put, sa_, sb_, sc_, i64_w, i32_w]
                        rfl
                      refine one_ (i := 3) (N := some 40) #[true, true, true, true, true, false] rfl rfl (by kernel_rfl) (by decide) (fun K hK => ?_)
                      refine goes_ Tryd.func39 (by kernel_rfl) rfl #[.agg #[.int .i64 (wrap64 (1000000 - t226)), .int .i64 (wrap64 (1000000 - t227))], .agg #[.int .i64 t229, .int .i64 t230]] (by rfl) rfl rfl (by (try simp only [List.map_toArray, List.map_cons, List.map_nil]); first | done | rfl | (simp only [List.length_drop, List.length_take]; rfl)) ?_
                      with_reducible refine (spec_divRange.calls (wrap64 (1000000 - t226)) (wrap64 (1000000 - t227)) t229 t230 t231 t232 _ A12.out).mono ?_
                      rintro e w33 ⟨rfl, hb⟩
                      refine ⟨_, rfl, ?_⟩
                      have n0_ := Aside0.mk (Kd.R_below (kr_ HO_4) hb)
                      have n1_ := Aside0.mk (blk_below (g := gb228) (o := .cells #[.int .i64 (wrap64 (1000000 - t226)), .int .i64 (wrap64 (1000000 - t227))] 30 (0, 0)) (bk_ BK228) hb)
                      have n2_ := Aside0.mk (blk_below (g := gb233) (o := .cells #[.int .i64 0, .int .i64 0] 30 (0, 0)) (bk_ BK233) hb)
                      have n3_ := Aside0.mk (below_step (bl_ HB) hb)
                      clear HO_4
                      clear BK228
                      clear BK233
                      clear HB
                      have HO_4 := n0_
                      have BK228 := n1_
                      have BK233 := n2_
                      have HB := n3_
                      clear n0_ n1_ n2_ n3_
                      (try clear hb)
                      (try clear hb2)
                      (try clear hk)
                      (try clear hi)
                      refine hK.out _ _ ⟨(blk_cell BK228.out 0).trans rfl, (blk_cell BK228.out 1).trans rfl⟩ (fun hHeld => ?_)
                      clear hK K
                      refine norm_ (a' := ?_) ?_ ?_
                      rotate_left
                      · show Act.put _ (some 40) _ = _
                        simp only [Act.put, sa_, sb_, sc_, i64_w, i32_w]
                        rfl
                      exact norm_ (by simp only [putAll, Act.put, sa_, sb_, sc_]) (hCont (gb233) _ ⟨hHeld, (kr_ HO_4), (bk_ BK228), (bk_ BK233), GW233.out, GE233.out, NB228_233.out, NB233_228.out, (bl_ HB)⟩)
                  · skip
                    refine box_step ?hg (N := 10) ?hd (cs := #[.int .i64 0, .int .i64 0]) (t := 30) ?hr ?_; (case hd => rfl); (case hg => rfl); (case hr => first | (go_simp; done) | (go_simp; rfl))
                    intro gb233 hg w31 hbox hb
                    have n0_ := Aside0.mk (Kd.R_below (Kd.R_elderB (kr_ HO_4) gb233 (Nat.le_of_eq hg.symm)) hb)
                    have n1_ := Aside0.mk (blk_below (g := gb228) (o := .cells #[.int .i64 (wrap64 (1000000 - t226)), .int .i64 (wrap64 (1000000 - t227))] 30 (0, 0)) (bk_ BK228) hb)
                    have n2_ := Aside0.mk (below_step (bl_ HB) hb)
                    have n3_ := Aside0.mk (hbox)
                    have n4_ := Aside0.mk ((by rw [hg]; exact (below_size (bl_ HB)) : w.heap.size ≤ gb233))
                    have n5_ := Aside0.mk ((by rw [hg]; exact (below_size (bl_ HB)) : w.heap.size ≤ gb233))
                    have n6_ := Aside0.mk ((by rw [hg]; exact Nat.ne_of_lt (blk_lt (g := gb228) (o := .cells #[.int .i64 (wrap64 (1000000 - t226)), .int .i64 (wrap64 (1000000 - t227))] 30 (0, 0)) (bk_ BK228)) : gb228 ≠ gb233))
                    have n7_ := Aside0.mk ((by rw [hg]; exact Nat.ne_of_gt (blk_lt (g := gb228) (o := .cells #[.int .i64 (wrap64 (1000000 - t226)), .int .i64 (wrap64 (1000000 - t227))] 30 (0, 0)) (bk_ BK228)) : gb233 ≠ gb228))
                    clear HO_4
                    clear BK228
                    clear HB
                    have HO_4 := n0_
                    have BK228 := n1_
                    have HB := n2_
                    have BK233 := n3_
                    have GW233 := n4_
                    have GE233 := n5_
                    have NB228_233 := n6_
                    have NB233_228 := n7_
                    clear n0_ n1_ n2_ n3_ n4_ n5_ n6_ n7_
                    clear hb hbox hg
                    refine hK.out _ _ ⟨(blk_cell BK228.out 0).trans rfl, (blk_cell BK228.out 1).trans rfl⟩ (fun hHeld => ?_)
                    clear hK K
                    refine norm_ (a' := ?_) ?_ ?_
                    rotate_left
                    · show Act.put _ (some 10) _ = _
                      simp only [Act.put, sa_, sb_, sc_, i64_w, i32_w]
                      rfl
                    refine one_ (i := 2) (N := some 39) #[true, true, true, false, true, false] rfl rfl (by kernel_rfl) (by decide) (fun K hK => ?_)
                    refine goes_ Tryd.func51 (by kernel_rfl) rfl #[.int .i64 (wrap64 (100 * (rd l0 x7_1)))] (by rfl) rfl rfl (by (try simp only [List.map_toArray, List.map_cons, List.map_nil]); first | done | rfl | (simp only [List.length_drop, List.length_take]; rfl)) ?_
                    with_reducible refine (spec_growth.calls (wrap64 (100 * (rd l0 x7_1))) t229 t230 _ A11.out).mono ?_
                    rintro e w32 ⟨rfl, hb⟩
                    refine ⟨_, rfl, ?_⟩
                    have n0_ := Aside0.mk (Kd.R_below (kr_ HO_4) hb)
                    have n1_ := Aside0.mk (blk_below (g := gb228) (o := .cells #[.int .i64 (wrap64 (1000000 - t226)), .int .i64 (wrap64 (1000000 - t227))] 30 (0, 0)) (bk_ BK228) hb)
                    have n2_ := Aside0.mk (blk_below (g := gb233) (o := .cells #[.int .i64 0, .int .i64 0] 30 (0, 0)) (bk_ BK233) hb)
                    have n3_ := Aside0.mk (below_step (bl_ HB) hb)
                    clear HO_4
                    clear BK228
                    clear BK233
                    clear HB
                    have HO_4 := n0_
                    have BK228 := n1_
                    have BK233 := n2_
                    have HB := n3_
                    clear n0_ n1_ n2_ n3_
                    (try clear hb)
                    (try clear hb2)
                    (try clear hk)
                    (try clear hi)
                    refine hK.out _ _ ⟨(blk_cell BK228.out 0).trans rfl, (blk_cell BK228.out 1).trans rfl⟩ (fun hHeld => ?_)
                    clear hK K
                    refine norm_ (a' := ?_) ?_ ?_
                    rotate_left
                    · show Act.put _ (some 39) _ = _
                      simp only [Act.put, sa_, sb_, sc_, i64_w, i32_w]
                      rfl
                    refine one_ (i := 3) (N := some 40) #[true, true, true, true, true, false] rfl rfl (by kernel_rfl) (by decide) (fun K hK => ?_)
                    refine goes_ Tryd.func39 (by kernel_rfl) rfl #[.agg #[.int .i64 (wrap64 (1000000 - t226)), .int .i64 (wrap64 (1000000 - t227))], .agg #[.int .i64 t229, .int .i64 t230]] (by rfl) rfl rfl (by (try simp only [List.map_toArray, List.map_cons, List.map_nil]); first | done | rfl | (simp only [List.length_drop, List.length_take]; rfl)) ?_
                    with_reducible refine (spec_divRange.calls (wrap64 (1000000 - t226)) (wrap64 (1000000 - t227)) t229 t230 t231 t232 _ A12.out).mono ?_
                    rintro e w33 ⟨rfl, hb⟩
                    refine ⟨_, rfl, ?_⟩
                    have n0_ := Aside0.mk (Kd.R_below (kr_ HO_4) hb)
                    have n1_ := Aside0.mk (blk_below (g := gb228) (o := .cells #[.int .i64 (wrap64 (1000000 - t226)), .int .i64 (wrap64 (1000000 - t227))] 30 (0, 0)) (bk_ BK228) hb)
                    have n2_ := Aside0.mk (blk_below (g := gb233) (o := .cells #[.int .i64 0, .int .i64 0] 30 (0, 0)) (bk_ BK233) hb)
                    have n3_ := Aside0.mk (below_step (bl_ HB) hb)
                    clear HO_4
                    clear BK228
                    clear BK233
                    clear HB
                    have HO_4 := n0_
                    have BK228 := n1_
                    have BK233 := n2_
                    have HB := n3_
                    clear n0_ n1_ n2_ n3_
                    (try clear hb)
                    (try clear hb2)
                    (try clear hk)
                    (try clear hi)
                    refine hK.out _ _ ⟨(blk_cell BK228.out 0).trans rfl, (blk_cell BK228.out 1).trans rfl⟩ (fun hHeld => ?_)
                    clear hK K
                    refine norm_ (a' := ?_) ?_ ?_
                    rotate_left
                    · show Act.put _ (some 40) _ = _
                      simp only [Act.put, sa_, sb_, sc_, i64_w, i32_w]
                      rfl
                    exact norm_ (by simp only [putAll, Act.put, sa_, sb_, sc_]) (hCont (gb233) _ ⟨hHeld, (kr_ HO_4), (bk_ BK228), (bk_ BK233), GW233.out, GE233.out, NB228_233.out, NB233_228.out, (bl_ HB)⟩)
                rintro gb233 w34 ⟨hS_, h0_, h1_, h2_, h3_, h4_, h5_, h6_, h7_⟩
                have n0_ : Aside0 (Kd.R k30 30 w34 w.heap.size (fun k_ => k_ ≠ gb228 ∧ k_ ≠ gb233) u4 x4_1) := ⟨h0_⟩
                have n1_ : Aside0 (w34.heap[gb228]? = some (.cells #[.int .i64 (wrap64 (1000000 - t226)), .int .i64 (wrap64 (1000000 - t227))] 30 (0, 0))) := ⟨h1_⟩
                have n2_ : Aside0 (w34.heap[gb233]? = some (.cells #[.int .i64 0, .int .i64 0] 30 (0, 0))) := ⟨h2_⟩
                have n3_ : Aside0 (w.heap.size ≤ gb233) := ⟨h3_⟩
                have n4_ : Aside0 (w.heap.size ≤ gb233) := ⟨h4_⟩
                have n5_ : Aside0 (gb228 ≠ gb233) := ⟨h5_⟩
                have n6_ : Aside0 (gb233 ≠ gb228) := ⟨h6_⟩
                have n7_ : Aside0 (Below w.heap.size w w34) := ⟨h7_⟩
                clear HO_4
                clear BK228
                clear HB
                clear h0_ h1_ h2_ h3_ h4_ h5_ h6_ h7_
                have HO_4 := n0_
                have BK228 := n1_
                have BK233 := n2_
                have GW233 := n3_
                have GE233 := n4_
                have NB228_233 := n5_
                have NB233_228 := n6_
                have HB := n7_
                clear n0_ n1_ n2_ n3_ n4_ n5_ n6_ n7_
                have hHeld : w34.cell? ⟨gb228, 0, none⟩ = some (.int .i64 (wrap64 (1000000 - t226))) ∧ w34.cell? ⟨gb228, 1, none⟩ = some (.int .i64 (wrap64 (1000000 - t227))) := hS_
                refine norm_ (a' := ?_) ?_ ?_
                rotate_left
                · simp only [putAll, Act.put, sa_, sb_, sc_]
                  rfl
                refine one_ (i := 5) (N := none) #[true, true, true, true, true, true] rfl rfl (by kernel_rfl) (by decide) (fun K hK => ?_)
                have hs35 : w34.cell? ⟨gb233, 0, none⟩ = some (.int .i64 0) := (blk_cell BK233.out 0).trans rfl
                have hfs35 := blk_frozen BK233.out 0
                have hns35_0 := NB228_233.out
                have hms35_0 := NB233_228.out
                have hs36 : w34.cell? ⟨gb233, 1, none⟩ = some (.int .i64 0) := (blk_cell BK233.out 1).trans rfl
                have hfs36 := blk_frozen BK233.out 1
                have hns36_0 := NB228_233.out
                have hms36_0 := NB233_228.out
                refine skip_ (w1 := ?_) (by rfl) rfl ?_ ?_
                rotate_left
                · go_simp
                  rfl
                refine hK.out _ _ ⟨((cell_far (p := ⟨gb233, _, none⟩) NB228_233.out _).trans (((cell_far (p := ⟨gb233, _, none⟩) NB228_233.out _).trans (hHeld.1)))), ((cell_far (p := ⟨gb233, _, none⟩) NB228_233.out _).trans (((cell_far (p := ⟨gb233, _, none⟩) NB228_233.out _).trans (hHeld.2))))⟩ (fun hHeld => ?_)
                clear hK K
                refine done_ (by kernel_rfl) ?_
                have hnb37 := NB233_228.out
                have hnc37 := NB228_233.out
                have hcz38_0 : w34.cell? ⟨gb233, 0, none⟩ = some (.int .i64 0) := (blk_cell BK233.out 0).trans rfl
                have hcz38_1 : w34.cell? ⟨gb233, 1, none⟩ = some (.int .i64 0) := (blk_cell BK233.out 1).trans rfl
                have hfz38_0 := blk_frozen BK233.out 0
                have hfz38_1 := blk_frozen BK233.out 1
                try go_wp2_with (first | ((with_reducible refine gate_builtin (b := .append) (xs := #[.tmp 44, .tmp 46]) rfl ?_); at_builtin; refine Kd.R_append k30 (w0 := w) w.heap.size rfl (.tmp 44) (.tmp 46) 25 30 (.agg #[(.int .i64 0), (.int .i64 0)]) 16 rfl Tryd.underlying25 info30 rfl (by decide) (by omega) u4 x4_1 (⟨t231, t232⟩ : S30) [.int .i64 t231, .int .i64 t232] (fun k_ => k_ ≠ gb228 ∧ k_ ≠ gb233) (fun _ => False) rfl (by first | (go_simp; done) | (go_simp; rfl)) ?aP (fun _ hk => hk.elim) ?aF ?aO ?aB ?aS ?aL ?_; (case aP => exact k30_mkM _ _ _ (⟨t231, t232⟩ : S30)); (case aB => exact (bl_ HB)); (case aF => exact (fun k_ hk => ⟨Kd.freshB (g := gb228) (o := .cells #[.int .i64 (wrap64 (1000000 - t226)), .int .i64 (wrap64 (1000000 - t227))] 30 (0, 0)) (by (with_reducible repeat (first | refine blk_drewN ?_ _ | refine blk_drew ?_ | refine blk_alloc ?_ _)); refine blk_far ?_ NB228_233.out _; (with_reducible repeat (first | refine blk_drewN ?_ _ | refine blk_drew ?_ | refine blk_alloc ?_ _)); refine blk_far ?_ NB228_233.out _; (with_reducible repeat (first | refine blk_drewN ?_ _ | refine blk_drew ?_ | refine blk_alloc ?_ _)); exact BK228.out) k_ hk, Kd.freshB (g := gb233) (o := .cells #[.int .i64 t231, .int .i64 t232] 30 (0, 0)) (by (with_reducible repeat (first | refine blk_drewN ?_ _ | refine blk_drew ?_ | refine blk_alloc ?_ _)); refine blk_put (cs := #[.int .i64 t231, .int .i64 0]) ?_ 1 _ rfl; (with_reducible repeat (first | refine blk_drewN ?_ _ | refine blk_drew ?_ | refine blk_alloc ?_ _)); refine blk_put (cs := #[.int .i64 0, .int .i64 0]) ?_ 0 _ rfl; (with_reducible repeat (first | refine blk_drewN ?_ _ | refine blk_drew ?_ | refine blk_alloc ?_ _)); exact BK233.out) k_ hk⟩)); (case aO => exact (by (with_reducible repeat (first | apply Kd.R_alloc | apply Kd.R_drewN | apply Kd.R_drew)); exact Kd.R_mono (Kd.R_far (p := ⟨gb233, 1, none⟩) (Kd.R_far (p := ⟨gb233, 0, none⟩) (Kd.R_mono HO_4.out (fun k_ hk => (⟨hk, hk.2⟩ : _ ∧ k_ ≠ gb233))) (fun _ hk => hk.2) (.int .i64 t231)) (fun _ hk => hk.2) (.int .i64 t232)) (fun _ hk => ⟨hk.1.1, hk.1.2⟩))); (case aS => exact (below_size (bl_ HB))); (case aL => have := LMc26.out; omega); intro v235 w39 ho hb hg hat; rw [← Ny234.out] at ho; have n0_ := Aside0.mk (blk_grown (g := gb228) (o := .cells #[.int .i64 (wrap64 (1000000 - t226)), .int .i64 (wrap64 (1000000 - t227))] 30 (0, 0)) (by (with_reducible repeat (first | refine blk_drewN ?_ _ | refine blk_drew ?_ | refine blk_alloc ?_ _)); refine blk_far ?_ NB228_233.out _; (with_reducible repeat (first | refine blk_drewN ?_ _ | refine blk_drew ?_ | refine blk_alloc ?_ _)); refine blk_far ?_ NB228_233.out _; (with_reducible repeat (first | refine blk_drewN ?_ _ | refine blk_drew ?_ | refine blk_alloc ?_ _)); exact BK228.out) hg (Kd.R_away HO_4.out (fun _ hk => hk.1))); have n1_ := Aside0.mk (blk_grown (g := gb233) (o := .cells #[.int .i64 t231, .int .i64 t232] 30 (0, 0)) (by (with_reducible repeat (first | refine blk_drewN ?_ _ | refine blk_drew ?_ | refine blk_alloc ?_ _)); refine blk_put (cs := #[.int .i64 t231, .int .i64 0]) ?_ 1 _ rfl; (with_reducible repeat (first | refine blk_drewN ?_ _ | refine blk_drew ?_ | refine blk_alloc ?_ _)); refine blk_put (cs := #[.int .i64 0, .int .i64 0]) ?_ 0 _ rfl; (with_reducible repeat (first | refine blk_drewN ?_ _ | refine blk_drew ?_ | refine blk_alloc ?_ _)); exact BK233.out) hg (Kd.R_away HO_4.out (fun _ hk => hk.2))); have n2_ := Aside0.mk (hb); have n3_ := Aside0.mk (ho); clear BK228; clear BK233; clear HB; clear HO_4; have BK228 := n0_; have BK233 := n1_; have HB := n2_; have HO236 := n3_; clear n0_ n1_ n2_ n3_; clear ho hb hg hat; have hcz40_0 : w39.cell? ⟨gb233, 0, none⟩ = some (.int .i64 t231) := (blk_cell BK233.out 0).trans rfl; have hcz40_1 : w39.cell? ⟨gb233, 1, none⟩ = some (.int .i64 t232) := (blk_cell BK233.out 1).trans rfl; have hfz40_0 := blk_frozen BK233.out 0; have hfz40_1 := blk_frozen BK233.out 1))
                go_roundg k1
                case measure => have := HK1.out; omega
                case rel => exact ⟨(y234), (wrap64 (x5_1 + t231)), (wrap64 (x6_1 + t232)), (wrap64 (x7_1 + 1)), (by first | rfl | (simp; done) | (simp [*]; done)), (by first | rfl | (simp; done) | (simp [*]; done)), (by first | rfl | (simp; done) | (simp [*]; done)), H', ⟨by have := HK1.out; omega⟩, ⟨by (with_reducible repeat (first | apply Kd.R_alloc | apply Kd.R_drewN | apply Kd.R_drew)); exact Kd.R_mono HO236.out (fun _ hk => trivial)⟩, ⟨by repeat (first | (with_reducible first | exact HB.out | apply below_alloc | apply pw_below_drewN | apply below_drew1 | refine below_set ?_ GE228.out | refine below_set ?_ GE233.out) | exact HB.out)⟩⟩
              · rw [if_neg c26] at H
                exact absurd H (by simp)
        · rw [if_neg c5] at H
          exact absurd H (by simp)
      · rw [if_neg c4] at H
        have c4b0 : decide (x7_1 < (l0.length : Int)) = false := decide_eq_false c4
        clear c4
        simp only [Option.some.injEq, Prod.mk.injEq] at H
        obtain ⟨rfl, rfl⟩ := H
        go_wp2
        go_ret2
        exact ⟨_, by first | rfl | (simp [errW_none, errW_some] <;> rfl) | (simp [*, errW_none, errW_some] <;> rfl), by (with_reducible repeat (first | apply Kd.R_alloc | apply Kd.R_drewN | apply Kd.R_drew)); exact HO_4.out, by repeat (first | (with_reducible first | exact HB.out | apply below_alloc | apply pw_below_drewN | apply below_drew1) | exact HB.out)⟩

/-! ### spec_CurveOf: function 8 -/
def spec_CurveOf.f (k : Nat) (l0 : List Int) : Option ((List (S30)) × Bool) := (spec_validRates.f k l0).bind fun t237 => (if t237 = true then ((spec_curve.f k l0).bind fun bt238 => (some (bt238.1, bt238.2))) else (some (([] : List (S30)), false)))
theorem spec_CurveOf.mono : ∀ a0 k, LeO (spec_CurveOf.f k a0) (spec_CurveOf.f (k + 1) a0) := by
  intro a0 k
  unfold spec_CurveOf.f
  repeat' first
      | (with_reducible exact spec_curve.mono _ _)
      | (with_reducible exact spec_validRates.mono _ _)
      | (with_reducible exact LeO.refl _)
      | (with_reducible exact LeO.none _)
      | (with_reducible refine LeO.ite ?_ ?_)
      | (with_reducible refine LeO.bind ?_ (fun _ => ?_))
      | exact spec_curve.mono _ _
      | exact spec_validRates.mono _ _
      | exact LeO.none _
      | refine LeO.ite ?_ ?_
      | refine LeO.bind ?_ (fun _ => ?_)
set_option maxHeartbeats 8000000 in
set_option maxRecDepth 100000 in
theorem spec_CurveOf.calls (k : Nat) (A0 : Option Addr) (c0 : Nat) (l0 : List Int) (r1 : List (S30)) (r2 : Bool) (w : World) (hr0 : Kd.C (Kd.int .i64) w A0 l0.length l0) (hc0 : l0.length ≤ c0) (h : spec_CurveOf.f k l0 = some (r1, r2)) :
    Calls Tryd.prog 8 #[.slice A0 l0.length c0] w fun e w' => ∃ v0_ : Value, e = .returned (.tuple #[v0_, .bool r2]) ∧ Kd.R k30 30 w' w.heap.size (fun _ => True) v0_ r1 ∧ Below w.heap.size w w' := by
  have HR0 := Aside0.mk hr0
  have HC0 := Aside0.mk hc0
  clear hr0 hc0
  have HB := Aside0.mk (Below.refl w.heap.size w)
  have H : ((spec_validRates.f k l0).bind fun t237 => (if t237 = true then ((spec_curve.f k l0).bind fun bt238 => (some (bt238.1, bt238.2))) else (some (([] : List (S30)), false)))) = some (r1, r2) := h
  clear h
  replace H := Option.bind_eq_some_iff.mp H
  obtain ⟨t237, A20, H⟩ := H
  replace H : (if t237 = true then ((spec_curve.f k l0).bind fun bt238 => (some (bt238.1, bt238.2))) else (some (([] : List (S30)), false))) = some (r1, r2) := H
  have A2 := Aside0.mk A20
  clear A20
  by_cases c3 : t237 = true
  · subst c3
    have H1 : ((spec_curve.f k l0).bind fun bt238 => (some (bt238.1, bt238.2))) = some (r1, r2) := by rw [if_pos rfl] at H; exact H
    clear H
    have H := H1
    clear H1
    replace H := Option.bind_eq_some_iff.mp H
    obtain ⟨⟨t238, t239⟩, A40, H⟩ := H
    replace H : (some (t238, t239)) = some (r1, r2) := H
    have A4 := Aside0.mk A40
    clear A40
    simp only [Option.some.injEq, Prod.mk.injEq] at H
    obtain ⟨rfl, rfl⟩ := H
    go_enter Tryd.func8, Tryd.ntmps8
    go_wp2_with (first | ((with_reducible refine gate_callee (f := 28) rfl ?_); refine goesL_ (some 5) rfl rfl Tryd.func28 (by kernel_rfl) rfl #[.slice A0 l0.length c0] rfl (by (try simp only [List.map_toArray, List.map_cons, List.map_nil]); first | done | rfl | (simp only [List.length_drop, List.length_take]; rfl)) ?_; (with_reducible refine (spec_validRates.calls k _ _ l0 true _ ?side1 ?side2 A2.out).mono ?_); (case side1 => repeat (first | exact HR0.out | (with_reducible refine Kd.C_alloc ?_ _) | (with_reducible refine Kd.C_drewN ?_ _) | (with_reducible refine Kd.C_drew ?_))); (case side2 => exact HC0.out); rintro e w' ⟨rfl, ⟨nd, rfl⟩⟩; refine ⟨_, rfl, ?_⟩) | ((with_reducible refine gate_callee (f := 29) rfl ?_); refine goesL_ (some 8) rfl rfl Tryd.func29 (by kernel_rfl) rfl #[.slice A0 l0.length c0] rfl (by (try simp only [List.map_toArray, List.map_cons, List.map_nil]); first | done | rfl | (simp only [List.length_drop, List.length_take]; rfl)) ?_; (with_reducible refine (spec_curve.calls k _ _ l0 t238 t239 _ ?side1 ?side2 A4.out).mono ?_); (case side1 => repeat (first | exact HR0.out | (with_reducible refine Kd.C_alloc ?_ _) | (with_reducible refine Kd.C_drewN ?_ _) | (with_reducible refine Kd.C_drew ?_))); (case side2 => exact HC0.out); rintro e w5 ⟨v240, rfl, ho0, hb⟩; refine ⟨_, rfl, ?_⟩; have n0_ := Aside0.mk (Kd.R_lower ho0 (below_size (bl_ HB))); have n1_ := Aside0.mk (below_step (bl_ HB) hb); clear HB; have HO241 := n0_; have HB := n1_; clear n0_ n1_; (try clear hb); (try clear hb2); (try clear hk); (try clear hi); (try clear ho0)))
    go_ret2
    exact ⟨_, by first | rfl | (simp [errW_none, errW_some] <;> rfl) | (simp [*, errW_none, errW_some] <;> rfl), by (with_reducible repeat (first | apply Kd.R_alloc | apply Kd.R_drewN | apply Kd.R_drew)); exact HO241.out, by repeat (first | (with_reducible first | exact HB.out | apply below_alloc | apply pw_below_drewN | apply below_drew1) | exact HB.out)⟩
  · replace c3 := Bool.eq_false_iff.mpr c3
    subst c3
    have H1 : (some (([] : List (S30)), false)) = some (r1, r2) := by rw [if_neg (show ¬ (false = true) by decide)] at H; exact H
    clear H
    have H := H1
    clear H1
    simp only [Option.some.injEq, Prod.mk.injEq] at H
    obtain ⟨rfl, rfl⟩ := H
    go_enter Tryd.func8, Tryd.ntmps8
    go_wp2_with (first | ((with_reducible refine gate_callee (f := 28) rfl ?_); refine goesL_ (some 5) rfl rfl Tryd.func28 (by kernel_rfl) rfl #[.slice A0 l0.length c0] rfl (by (try simp only [List.map_toArray, List.map_cons, List.map_nil]); first | done | rfl | (simp only [List.length_drop, List.length_take]; rfl)) ?_; (with_reducible refine (spec_validRates.calls k _ _ l0 false _ ?side1 ?side2 A2.out).mono ?_); (case side1 => repeat (first | exact HR0.out | (with_reducible refine Kd.C_alloc ?_ _) | (with_reducible refine Kd.C_drewN ?_ _) | (with_reducible refine Kd.C_drew ?_))); (case side2 => exact HC0.out); rintro e w' ⟨rfl, ⟨nd, rfl⟩⟩; refine ⟨_, rfl, ?_⟩))
    go_ret2
    exact ⟨_, by first | rfl | (simp [errW_none, errW_some] <;> rfl) | (simp [*, errW_none, errW_some] <;> rfl), by first | exact Kd.R_nil _ _ _ _ _ | exact Kd.N_nil _ _ _ _ _ | exact Kd.V_nil _ _ _ _ _ | exact Kd.Q_nil _ _ _ _ _ | exact Kd.S_nil _ _ _ _ _, by repeat (first | (with_reducible first | exact HB.out | apply below_alloc | apply pw_below_drewN | apply below_drew1) | exact HB.out)⟩

/-! ### laws_equalRanges: function 9 -/
def laws_equalRanges.l0 : Nat → List (S30) → List (S30) → Int → Option (Bool)
  | 0, _, _, _ => none
  | k + 1, x0, x1, x5 => if x5 < (x0.length : Int) then (if 0 ≤ x5 then (if x5 < (x1.length : Int) then (if (!(((rd_T30 x0 x5).f0) == ((rd_T30 x1 x5).f0)) || (!(((rd_T30 x0 x5).f1) == ((rd_T30 x1 x5).f1)))) = true then (some false) else (laws_equalRanges.l0 k x0 x1 (wrap64 (x5 + 1)))) else (none)) else (none)) else (some true)
def laws_equalRanges.f (k : Nat) (l0 : List (S30)) (l1 : List (S30)) : Option (Bool) := if (l0.length : Int) = (l1.length : Int) then (laws_equalRanges.l0 k l0 l1 0) else (some false)
theorem laws_equalRanges.mono_l : ∀ k, (∀ y0 y1 y2, LeO (laws_equalRanges.l0 k y0 y1 y2) (laws_equalRanges.l0 (k + 1) y0 y1 y2))
  | 0 => fun _ _ _ r h => by simp [laws_equalRanges.l0] at h
  | k + 1 => by
    have ih0 := laws_equalRanges.mono_l k
    · intro y0 y1 y2
      unfold laws_equalRanges.l0
      repeat' first
      | (with_reducible exact ih0 _ _ _)
      | (with_reducible exact LeO.refl _)
      | (with_reducible exact LeO.none _)
      | (with_reducible refine LeO.ite ?_ ?_)
      | (with_reducible refine LeO.bind ?_ (fun _ => ?_))
      | exact ih0 _ _ _
      | exact LeO.none _
      | refine LeO.ite ?_ ?_
      | refine LeO.bind ?_ (fun _ => ?_)
theorem laws_equalRanges.mono : ∀ a0 a1 k, LeO (laws_equalRanges.f k a0 a1) (laws_equalRanges.f (k + 1) a0 a1) := by
  intro a0 a1 k
  have ih0 := laws_equalRanges.mono_l k
  unfold laws_equalRanges.f
  repeat' first
      | (with_reducible exact ih0 _ _ _)
      | (with_reducible exact LeO.refl _)
      | (with_reducible exact LeO.none _)
      | (with_reducible refine LeO.ite ?_ ?_)
      | (with_reducible refine LeO.bind ?_ (fun _ => ?_))
      | exact ih0 _ _ _
      | exact LeO.none _
      | refine LeO.ite ?_ ?_
      | refine LeO.bind ?_ (fun _ => ?_)
set_option maxHeartbeats 8000000 in
set_option maxRecDepth 100000 in
theorem laws_equalRanges.calls (k : Nat) (A0 : Option Addr) (c0 : Nat) (l0 : List (S30)) (A1 : Option Addr) (c1 : Nat) (l1 : List (S30)) (r : Bool) (w : World) (hr0 : Kd.C k30 w A0 l0.length l0) (hc0 : l0.length ≤ c0) (hr1 : Kd.C k30 w A1 l1.length l1) (hc1 : l1.length ≤ c1) (h : laws_equalRanges.f k l0 l1 = some r) :
    Calls Tryd.prog 9 #[.slice A0 l0.length c0, .slice A1 l1.length c1] w fun e w' => e = .returned (.bool r) ∧ Drawn0 w w' := by
  have hu30 := Tryd.underlying30
  have HR0 := Aside0.mk hr0
  have HC0 := Aside0.mk hc0
  clear hr0 hc0
  have HR1 := Aside0.mk hr1
  have HC1 := Aside0.mk hc1
  clear hr1 hc1
  have H : (if (l0.length : Int) = (l1.length : Int) then (laws_equalRanges.l0 k l0 l1 0) else (some false)) = some r := h
  clear h
  by_cases c3 : (l0.length : Int) = (l1.length : Int)
  · rw [if_pos c3] at H
    have c3b0 : ((l0.length : Int) == (l1.length : Int)) = true := beq_iff_eq.mpr c3
    have c3b1 : ((l0.length : Int) != (l1.length : Int)) = false := bne_eq_false_iff_eq.mpr c3
    have c3b2 : (l0.length == l1.length) = true := by first | simpa using c3 | (simp at c3 ⊢; omega)
    clear c3
    have H' := Aside0.mk H
    clear H
    go_enter Tryd.func9, Tryd.ntmps9
    go_wp2
    repeat (go_quiet (fail); try go_wp2)
    go_loopg [5] k (fun kq v5 w' => ∃ (x5_1 : Int), v5 = .int .i64 x5_1 ∧ Aside0 (laws_equalRanges.l0 kq l0 l1 x5_1 = some r) ∧ Aside0 (kq ≤ k) ∧ Drawn0 w w')
    case atStart => exact ⟨(0), (by first | rfl | (simp; done) | (simp [*]; done)), H', ⟨Nat.le_refl _⟩, by repeat (first | exact Drawn0.refl _ | apply Drawn0.step)⟩
    case round =>
      clear H'
      try clear c1
      try clear p2
      try clear c3
      try clear c3b0
      try clear c3b1
      try clear c3b2
      obtain ⟨x5_1, rfl, HA, HK1, ⟨m1, rfl⟩⟩ := hrel
      cases gk with
      | zero => exact absurd HA.out (by simp [laws_equalRanges.l0])
      | succ k1 =>
        have H := HA.out
        clear HA
        simp only [laws_equalRanges.l0] at H
        by_cases c4 : x5_1 < (l0.length : Int)
        · rw [if_pos c4] at H
          have c4b0 : decide (x5_1 < (l0.length : Int)) = true := decide_eq_true c4
          clear c4
          by_cases c5 : 0 ≤ x5_1
          · rw [if_pos c5] at H
            have c5b0 : decide (0 ≤ x5_1) = true := decide_eq_true c5
            clear c5
            by_cases c6 : x5_1 < (l1.length : Int)
            · rw [if_pos c6] at H
              have c6b0 : decide (x5_1 < (l1.length : Int)) = true := decide_eq_true c6
              clear c6
              by_cases c7 : (!(((rd_T30 l0 x5_1).f0) == ((rd_T30 l1 x5_1).f0)) || (!(((rd_T30 l0 x5_1).f1) == ((rd_T30 l1 x5_1).f1)))) = true
              · rw [if_pos c7] at H
                have c7b0 : (!(((rd_T30 l0 x5_1).f0) == ((rd_T30 l1 x5_1).f0)) || (!(((rd_T30 l0 x5_1).f1) == ((rd_T30 l1 x5_1).f1)))) = true := c7
                clear c7
                obtain rfl := Option.some.inj H
                have p242 : 0 ≤ (x5_1 : Int) := of_decide_eq_true (by first | (with_reducible assumption) | assumption)
                have q242 : x5_1 < (l0.length : Int) := of_decide_eq_true (by first | (with_reducible assumption) | assumption)
                obtain ⟨ad242, e242, hx242_0, hx242_1⟩ := at_T30 HR0.out x5_1 p242 q242
                cases e242
                replace p242 := eq_true p242
                replace q242 := eq_true q242
                have p243 : 0 ≤ (x5_1 : Int) := of_decide_eq_true (by first | (with_reducible assumption) | assumption)
                have q243 : x5_1 < (l1.length : Int) := of_decide_eq_true (by first | (with_reducible assumption) | assumption)
                obtain ⟨ad243, e243, hx243_0, hx243_1⟩ := at_T30 HR1.out x5_1 p243 q243
                cases e243
                replace p243 := eq_true p243
                replace q243 := eq_true q243
                go_wp2
                repeat (go_quiet (fail); try go_wp2)
                go_ret
                exact ⟨by first | rfl | (simp; done) | (simp [*]; done), by repeat (first | exact Drawn0.refl _ | apply Drawn0.step)⟩
              · rw [if_neg c7] at H
                have c7b0 : (!(((rd_T30 l0 x5_1).f0) == ((rd_T30 l1 x5_1).f0)) || (!(((rd_T30 l0 x5_1).f1) == ((rd_T30 l1 x5_1).f1)))) = false := by simpa using c7
                clear c7
                have H' := Aside0.mk H
                clear H
                have p242 : 0 ≤ (x5_1 : Int) := of_decide_eq_true (by first | (with_reducible assumption) | assumption)
                have q242 : x5_1 < (l0.length : Int) := of_decide_eq_true (by first | (with_reducible assumption) | assumption)
                obtain ⟨ad242, e242, hx242_0, hx242_1⟩ := at_T30 HR0.out x5_1 p242 q242
                cases e242
                replace p242 := eq_true p242
                replace q242 := eq_true q242
                have p243 : 0 ≤ (x5_1 : Int) := of_decide_eq_true (by first | (with_reducible assumption) | assumption)
                have q243 : x5_1 < (l1.length : Int) := of_decide_eq_true (by first | (with_reducible assumption) | assumption)
                obtain ⟨ad243, e243, hx243_0, hx243_1⟩ := at_T30 HR1.out x5_1 p243 q243
                cases e243
                replace p243 := eq_true p243
                replace q243 := eq_true q243
                go_wp2
                repeat (go_quiet (fail); try go_wp2)
                go_roundg k1
                case measure => have := HK1.out; omega
                case rel => exact ⟨(wrap64 (x5_1 + 1)), (by first | rfl | (simp; done) | (simp [*]; done)), H', ⟨by have := HK1.out; omega⟩, by repeat (first | exact Drawn0.refl _ | apply Drawn0.step)⟩
            · rw [if_neg c6] at H
              exact absurd H (by simp)
          · rw [if_neg c5] at H
            exact absurd H (by simp)
        · rw [if_neg c4] at H
          have c4b0 : decide (x5_1 < (l0.length : Int)) = false := decide_eq_false c4
          clear c4
          obtain rfl := Option.some.inj H
          go_wp2
          repeat (go_quiet (fail); try go_wp2)
          go_ret
          exact ⟨by first | rfl | (simp; done) | (simp [*]; done), by repeat (first | exact Drawn0.refl _ | apply Drawn0.step)⟩
  · rw [if_neg c3] at H
    have c3b0 : ((l0.length : Int) == (l1.length : Int)) = false := beq_eq_false_iff_ne.mpr c3
    have c3b1 : ((l0.length : Int) != (l1.length : Int)) = true := bne_iff_ne.mpr c3
    have c3b2 : (l0.length == l1.length) = false := by first | simpa using c3 | (simp at c3 ⊢; omega)
    obtain rfl := Option.some.inj H
    go_enter Tryd.func9, Tryd.ntmps9
    go_wp2
    repeat (go_quiet (fail); try go_wp2)
    go_ret
    exact ⟨by first | rfl | (simp; done) | (simp [*]; done), by repeat (first | exact Drawn0.refl _ | apply Drawn0.step)⟩

end Go.Proofs.YtbofmoelmhbpoaaDoor.Q

/- Printed by a program (bprint.py) out of the translation: for each Go function a Lean function, and the proof that the call comes to its answers. Conditions: they stand in each theorem. -/
import Derived.Test.YtomhnfajnbhaoaaDoorQx0
import Derived.Test.YtomhnfajnbhaoaaDoorQx2
import Derived.Test.YtomhnfajnbhaoaaDoorQx4
import Derived.Test.YtomhnfajnbhaoaaDoorQx6
import Derived.Test.YtomhnfajnbhaoaaDoorTab
namespace Go.Proofs.YtomhnfajnbhaoaaDoor.Q
open Go.RowKit Go.Proofs.YtomhnfajnbhaoaaDoorW.PrintWords Go.Proofs.YtomhnfajnbhaoaaDoorW.PrintLast Go.Proofs.YtomhnfajnbhaoaaDoorW.PrintMore
attribute [local go_sem] max2_int min2_int max_two min_two max_three min_three max_four min_four   -- for this text's walks alone
set_option linter.unusedVariables false
set_option linter.unusedSimpArgs false
set_option linter.unusedSectionVars false
variable [Sent]

/-! ### laws_FnCurveOfPrefix: function 5 -/
def laws_FnCurveOfPrefix.j0 : Nat → List Int → List (S30) → Bool → List (S30) → Bool → Bool → Option (Bool)
  | 0, _, _, _, _, _, _ => none
  | k + 1, x3, x4, x5, x6, x7, x38 => if x38 = true then ((laws_equalRanges.f k x4 x6).bind fun t304 => (if t304 = true then (some (x5 == x7)) else (some false))) else (if 0 ≤ (wrap64 (Int.tdiv (wrap64 ((x3.length : Int) + 1)) 2)) then (if (wrap64 (Int.tdiv (wrap64 ((x3.length : Int) + 1)) 2)) ≤ (x3.length : Int) then ((impl_CurveOf.f k (x3.take ((wrap64 (Int.tdiv (wrap64 ((x3.length : Int) + 1)) 2)) : Int).toNat)).bind fun bt309 => (if bt309.2 = true then (if (wrap64 (Int.tdiv (wrap64 ((x3.length : Int) + 1)) 2)) ≤ (x4.length : Int) then ((laws_equalRanges.f k bt309.1 (x4.take ((wrap64 (Int.tdiv (wrap64 ((x3.length : Int) + 1)) 2)) : Int).toNat)).bind fun t317 => (some t317)) else (none)) else (some false))) else (none)) else (none))
def laws_FnCurveOfPrefix.f (k : Nat) (l0 : List Int) : Option (Bool) := if (l0.length : Int) > 1048576 then (some true) else ((spec_DrawCurveOf.f k l0).bind fun t292 => ((impl_CurveOf.f k t292).bind fun bt295 => ((spec_CurveOf.f k t292).bind fun bt299 => ((laws_equalRanges.f k bt295.1 bt299.1).bind fun t303 => (if t303 = true then (if (bt295.2 != bt299.2) = true then (laws_FnCurveOfPrefix.j0 k t292 bt295.1 bt295.2 bt299.1 bt299.2 true) else (laws_FnCurveOfPrefix.j0 k t292 bt295.1 bt295.2 bt299.1 bt299.2 (!bt295.2))) else (laws_FnCurveOfPrefix.j0 k t292 bt295.1 bt295.2 bt299.1 bt299.2 true))))))
theorem laws_FnCurveOfPrefix.mono_l : ∀ k, (∀ y0 y1 y2 y3 y4 y5, LeO (laws_FnCurveOfPrefix.j0 k y0 y1 y2 y3 y4 y5) (laws_FnCurveOfPrefix.j0 (k + 1) y0 y1 y2 y3 y4 y5))
  | 0 => fun _ _ _ _ _ _ r h => by simp [laws_FnCurveOfPrefix.j0] at h
  | k + 1 => by
    have ih0 := laws_FnCurveOfPrefix.mono_l k
    · intro y0 y1 y2 y3 y4 y5
      unfold laws_FnCurveOfPrefix.j0
      repeat' first
      | (with_reducible exact ih0 _ _ _ _ _ _)
      | (with_reducible exact impl_CurveOf.mono _ _)
      | (with_reducible exact laws_equalRanges.mono _ _ _)
      | (with_reducible exact spec_CurveOf.mono _ _)
      | (with_reducible exact spec_DrawCurveOf.mono _ _)
      | (with_reducible exact LeO.refl _)
      | (with_reducible exact LeO.none _)
      | (with_reducible refine LeO.ite ?_ ?_)
      | (with_reducible refine LeO.bind ?_ (fun _ => ?_))
      | exact ih0 _ _ _ _ _ _
      | exact impl_CurveOf.mono _ _
      | exact laws_equalRanges.mono _ _ _
      | exact spec_CurveOf.mono _ _
      | exact spec_DrawCurveOf.mono _ _
      | exact LeO.none _
      | refine LeO.ite ?_ ?_
      | refine LeO.bind ?_ (fun _ => ?_)
theorem laws_FnCurveOfPrefix.mono : ∀ a0 k, LeO (laws_FnCurveOfPrefix.f k a0) (laws_FnCurveOfPrefix.f (k + 1) a0) := by
  intro a0 k
  have ih0 := laws_FnCurveOfPrefix.mono_l k
  unfold laws_FnCurveOfPrefix.f
  repeat' first
      | (with_reducible exact ih0 _ _ _ _ _ _)
      | (with_reducible exact impl_CurveOf.mono _ _)
      | (with_reducible exact laws_equalRanges.mono _ _ _)
      | (with_reducible exact spec_CurveOf.mono _ _)
      | (with_reducible exact spec_DrawCurveOf.mono _ _)
      | (with_reducible exact LeO.refl _)
      | (with_reducible exact LeO.none _)
      | (with_reducible refine LeO.ite ?_ ?_)
      | (with_reducible refine LeO.bind ?_ (fun _ => ?_))
      | exact ih0 _ _ _ _ _ _
      | exact impl_CurveOf.mono _ _
      | exact laws_equalRanges.mono _ _ _
      | exact spec_CurveOf.mono _ _
      | exact spec_DrawCurveOf.mono _ _
      | exact LeO.none _
      | refine LeO.ite ?_ ?_
      | refine LeO.bind ?_ (fun _ => ?_)
set_option maxHeartbeats 8000000 in
set_option maxRecDepth 100000 in
theorem laws_FnCurveOfPrefix.calls (k : Nat) (A0 : Option Addr) (c0 : Nat) (l0 : List Int) (r : Bool) (w : World) (hr0 : Kd.C (Kd.int .u8) w A0 l0.length l0) (hc0 : l0.length ≤ c0) (hT : Tab w) (h : laws_FnCurveOfPrefix.f k l0 = some r) :
    Calls Tryd.prog 5 #[.slice A0 l0.length c0] w fun e w' => e = .returned (.bool r) ∧ Below w.heap.size w w' := by
  have HTab := Aside0.mk hT
  clear hT
  have HR0 := Aside0.mk hr0
  have HC0 := Aside0.mk hc0
  clear hr0 hc0
  have HB := Aside0.mk (Below.refl w.heap.size w)
  have H : (if (l0.length : Int) > 1048576 then (some true) else ((spec_DrawCurveOf.f k l0).bind fun t292 => ((impl_CurveOf.f k t292).bind fun bt295 => ((spec_CurveOf.f k t292).bind fun bt299 => ((laws_equalRanges.f k bt295.1 bt299.1).bind fun t303 => (if t303 = true then (if (bt295.2 != bt299.2) = true then (laws_FnCurveOfPrefix.j0 k t292 bt295.1 bt295.2 bt299.1 bt299.2 true) else (laws_FnCurveOfPrefix.j0 k t292 bt295.1 bt295.2 bt299.1 bt299.2 (!bt295.2))) else (laws_FnCurveOfPrefix.j0 k t292 bt295.1 bt295.2 bt299.1 bt299.2 true))))))) = some r := h
  clear h
  by_cases c2 : (l0.length : Int) > 1048576
  · rw [if_pos c2] at H
    have c2b0 : decide (1048576 < (l0.length : Int)) = true := decide_eq_true c2
    have c2b1 : decide (1048576 < l0.length) = true := decide_eq_true (by omega)
    clear c2
    obtain rfl := Option.some.inj H
    go_enter Tryd.func5, Tryd.ntmps5
    go_wp2
    go_ret
    exact ⟨by first | rfl | (simp [errW_none, errW_some] <;> rfl) | (simp [*, errW_none, errW_some] <;> rfl), by repeat (first | (with_reducible first | exact HB.out | apply below_alloc | apply pw_below_drewN | apply below_drew1) | exact HB.out)⟩
  · rw [if_neg c2] at H
    have c2b0 : decide (1048576 < (l0.length : Int)) = false := decide_eq_false c2
    have c2b1 : decide (1048576 < l0.length) = false := decide_eq_false (by omega)
    clear c2
    replace H := Option.bind_eq_some_iff.mp H
    obtain ⟨t292, A30, H⟩ := H
    replace H : ((impl_CurveOf.f k t292).bind fun bt295 => ((spec_CurveOf.f k t292).bind fun bt299 => ((laws_equalRanges.f k bt295.1 bt299.1).bind fun t303 => (if t303 = true then (if (bt295.2 != bt299.2) = true then (laws_FnCurveOfPrefix.j0 k t292 bt295.1 bt295.2 bt299.1 bt299.2 true) else (laws_FnCurveOfPrefix.j0 k t292 bt295.1 bt295.2 bt299.1 bt299.2 (!bt295.2))) else (laws_FnCurveOfPrefix.j0 k t292 bt295.1 bt295.2 bt299.1 bt299.2 true))))) = some r := H
    have A3 := Aside0.mk A30
    clear A30
    replace H := Option.bind_eq_some_iff.mp H
    obtain ⟨⟨t295, t296⟩, A40, H⟩ := H
    replace H : ((spec_CurveOf.f k t292).bind fun bt299 => ((laws_equalRanges.f k t295 bt299.1).bind fun t303 => (if t303 = true then (if (t296 != bt299.2) = true then (laws_FnCurveOfPrefix.j0 k t292 t295 t296 bt299.1 bt299.2 true) else (laws_FnCurveOfPrefix.j0 k t292 t295 t296 bt299.1 bt299.2 (!t296))) else (laws_FnCurveOfPrefix.j0 k t292 t295 t296 bt299.1 bt299.2 true)))) = some r := H
    have A4 := Aside0.mk A40
    clear A40
    replace H := Option.bind_eq_some_iff.mp H
    obtain ⟨⟨t299, t300⟩, A50, H⟩ := H
    replace H : ((laws_equalRanges.f k t295 t299).bind fun t303 => (if t303 = true then (if (t296 != t300) = true then (laws_FnCurveOfPrefix.j0 k t292 t295 t296 t299 t300 true) else (laws_FnCurveOfPrefix.j0 k t292 t295 t296 t299 t300 (!t296))) else (laws_FnCurveOfPrefix.j0 k t292 t295 t296 t299 t300 true))) = some r := H
    have A5 := Aside0.mk A50
    clear A50
    have HC6 := Aside0.mk H
    clear H
    go_enter Tryd.func5, Tryd.ntmps5
    go_upto_region 6 with (first | ((with_reducible refine gate_callee (f := 8) rfl ?_); refine goesL_ (some 15) rfl rfl Tryd.func8 (by kernel_rfl) rfl #[.slice A0 l0.length c0] rfl (by (try simp only [List.map_toArray, List.map_cons, List.map_nil]); first | done | rfl | (simp only [List.length_drop, List.length_take]; rfl)) ?_; (with_reducible refine (spec_DrawCurveOf.calls k _ _ l0 t292 _ ?side1 ?side2 A3.out).mono ?_); (case side1 => repeat (first | exact HR0.out | (with_reducible refine Kd.C_alloc ?_ _) | (with_reducible refine Kd.C_drewN ?_ _) | (with_reducible refine Kd.C_drew ?_))); (case side2 => exact HC0.out); rintro e w7 ⟨v293, rfl, ho0, hb⟩; refine ⟨_, rfl, ?_⟩; have n0_ := Aside0.mk (Kd.Q_lower ho0 (below_size (bl_ HB))); have n1_ := Aside0.mk (below_step (bl_ HB) hb); clear HB; have HO294 := n0_; have HB := n1_; clear n0_ n1_; (try clear hb); (try clear hb2); (try clear hk); (try clear hi); (try clear ho0); obtain ⟨Ao8, co8, eo8, _⟩ := Kd.Q_slice HO294.out; subst eo8) | ((with_reducible refine gate_callee (f := 9) rfl ?_); refine goesL_ (some 18) rfl rfl Tryd.func9 (by kernel_rfl) rfl #[.slice Ao8 t292.length co8] rfl (by (try simp only [List.map_toArray, List.map_cons, List.map_nil]); first | done | rfl | (simp only [List.length_drop, List.length_take]; rfl)) ?_; (with_reducible refine (impl_CurveOf.calls k _ _ t292 t295 t296 _ ?side1 ?side2 ?side3 A4.out).mono ?_); (case side1 => repeat (first | exact (Kd.Q_reads' HO294.out).2.2 | (with_reducible refine Kd.C_alloc ?_ _) | (with_reducible refine Kd.C_drewN ?_ _) | (with_reducible refine Kd.C_drew ?_))); (case side2 => exact (Kd.Q_reads' HO294.out).2.1); (case side3 => first | exact HTab.out | exact Tab.below HTab.out (bl_ HB)); rintro e w9 ⟨v297, rfl, ho0, hb⟩; refine ⟨_, rfl, ?_⟩; have n0_ := Aside0.mk (Kd.Q_below (by (with_reducible repeat (first | apply Kd.Q_alloc | apply Kd.Q_drewN | apply Kd.Q_drew)); exact HO294.out) hb); have n1_ := Aside0.mk (Kd.R_lower ho0 (below_size (bl_ HB))); have n2_ := Aside0.mk (below_step (bl_ HB) hb); clear HO294; clear HB; have HO294 := n0_; have HO298 := n1_; have HB := n2_; clear n0_ n1_ n2_; (try clear hb); (try clear hb2); (try clear hk); (try clear hi); (try clear ho0)) | ((with_reducible refine gate_callee (f := 10) rfl ?_); refine goesL_ (some 23) rfl rfl Tryd.func10 (by kernel_rfl) rfl #[.slice Ao8 t292.length co8] rfl (by (try simp only [List.map_toArray, List.map_cons, List.map_nil]); first | done | rfl | (simp only [List.length_drop, List.length_take]; rfl)) ?_; (with_reducible refine (spec_CurveOf.calls k _ _ t292 t299 t300 _ ?side1 ?side2 A5.out).mono ?_); (case side1 => repeat (first | exact (Kd.Q_reads' HO294.out).2.2 | (with_reducible refine Kd.C_alloc ?_ _) | (with_reducible refine Kd.C_drewN ?_ _) | (with_reducible refine Kd.C_drew ?_))); (case side2 => exact (Kd.Q_reads' HO294.out).2.1); rintro e w10 ⟨v301, rfl, ho0, hb⟩; refine ⟨_, rfl, ?_⟩; have n0_ := Aside0.mk (Kd.Q_below (by (with_reducible repeat (first | apply Kd.Q_alloc | apply Kd.Q_drewN | apply Kd.Q_drew)); exact HO294.out) hb); have n1_ := Aside0.mk (Kd.R_elder' (kr_ HO298) (Kd.R_base ho0) hb); have n2_ := Aside0.mk (Kd.R_lower (Kd.R_new' ho0 (Kd.R_lt (kr_ HO298))) (below_size (bl_ HB))); have n3_ := Aside0.mk (below_step (bl_ HB) hb); clear HO294; clear HO298; clear HB; have HO294 := n0_; have HO298 := n1_; have HO302 := n2_; have HB := n3_; clear n0_ n1_ n2_ n3_; (try clear hb); (try clear hb2); (try clear hk); (try clear hi); (try clear ho0)))
    (try simp only [Act.put, sa_, sb_, sc_])
    go_cut [38] (fun v38 wc => ∃ (kq : Nat) (x38_5 : Bool), v38 = .bool x38_5 ∧ Aside0 (laws_FnCurveOfPrefix.j0 kq t292 t295 t296 t299 t300 x38_5 = some r) ∧ Aside0 (kq ≤ k) ∧ Aside0 (Kd.Q (Kd.int .i64) 3 wc w.heap.size (fun _ => True) (.slice Ao8 t292.length co8) t292) ∧ Aside0 (Kd.R k30 30 wc w.heap.size (fun k_ => some k_ ≠ (v301 : Value).ownBlock) v297 t295) ∧ Aside0 (Kd.R k30 30 wc w.heap.size (fun k_ => some k_ ≠ (v297 : Value).ownBlock) v301 t299) ∧ Aside0 (Below w.heap.size w wc))
    case first =>
      have H := HC6.out
      clear HC6
      replace H := Option.bind_eq_some_iff.mp H
      obtain ⟨t303, A110, H⟩ := H
      replace H : (if t303 = true then (if (t296 != t300) = true then (laws_FnCurveOfPrefix.j0 k t292 t295 t296 t299 t300 true) else (laws_FnCurveOfPrefix.j0 k t292 t295 t296 t299 t300 (!t296))) else (laws_FnCurveOfPrefix.j0 k t292 t295 t296 t299 t300 true)) = some r := H
      have A11 := Aside0.mk A110
      clear A110
      by_cases c12 : t303 = true
      · subst c12
        have H1 : (if (t296 != t300) = true then (laws_FnCurveOfPrefix.j0 k t292 t295 t296 t299 t300 true) else (laws_FnCurveOfPrefix.j0 k t292 t295 t296 t299 t300 (!t296))) = some r := by rw [if_pos rfl] at H; exact H
        clear H
        have H := H1
        clear H1
        by_cases c13 : (t296 != t300) = true
        · rw [if_pos c13] at H
          have c13b0 : (t296 != t300) = true := c13
          (try (have c13b1 : decide (t296 = t300) = false := by simpa using c13))
          (try (have c13b2 : (t296 == t300) = false := by simpa using c13))
          (try (have c13b3 : ¬ (t296 = t300) := by simpa using c13))
          clear c13
          (first | rw [c13b0] | (simp only [i64_w, i32_w]; rw [c13b0]) | skip)
          have H' := Aside0.mk H
          clear H
          obtain ⟨Ao14, co14, eo14⟩ := Kd.R_slice HO298.out
          subst eo14
          obtain ⟨Ao15, co15, eo15⟩ := Kd.R_slice HO302.out
          subst eo15
          go_wp2_with (first | ((with_reducible refine gate_callee (f := 11) rfl ?_); refine goesL_ (some 28) rfl rfl Tryd.func11 (by kernel_rfl) rfl #[.slice Ao14 t295.length co14, .slice Ao15 t299.length co15] rfl (by (try simp only [List.map_toArray, List.map_cons, List.map_nil]); first | done | rfl | (simp only [List.length_drop, List.length_take]; rfl)) ?_; (with_reducible refine (laws_equalRanges.calls k _ _ t295 _ _ t299 true _ ?side1 ?side2 ?side3 ?side4 A11.out).mono ?_); (case side1 => repeat (first | exact (Kd.R_reads' HO298.out).2.2 | (with_reducible refine Kd.C_alloc ?_ _) | (with_reducible refine Kd.C_drewN ?_ _) | (with_reducible refine Kd.C_drew ?_))); (case side2 => exact (Kd.R_reads' HO298.out).2.1); (case side3 => repeat (first | exact (Kd.R_reads' HO302.out).2.2 | (with_reducible refine Kd.C_alloc ?_ _) | (with_reducible refine Kd.C_drewN ?_ _) | (with_reducible refine Kd.C_drew ?_))); (case side4 => exact (Kd.R_reads' HO302.out).2.1); rintro e w' ⟨rfl, ⟨nd, rfl⟩⟩; refine ⟨_, rfl, ?_⟩))
          go_meet
          case rel => exact ⟨_, (true), (by first | rfl | (simp; done) | (simp [*]; done)), H', ⟨by first | omega | exact Nat.le_refl _⟩, ⟨by (with_reducible repeat (first | apply Kd.Q_alloc | apply Kd.Q_drewN | apply Kd.Q_drew)); exact HO294.out⟩, ⟨by (with_reducible repeat (first | apply Kd.R_alloc | apply Kd.R_drewN | apply Kd.R_drew)); exact Kd.R_mono HO298.out (fun _ hk => hk.2)⟩, ⟨by (with_reducible repeat (first | apply Kd.R_alloc | apply Kd.R_drewN | apply Kd.R_drew)); exact Kd.R_mono HO302.out (fun _ hk => hk.2)⟩, ⟨by repeat (first | (with_reducible first | exact HB.out | apply below_alloc | apply pw_below_drewN | apply below_drew1) | exact HB.out)⟩⟩
        · rw [if_neg c13] at H
          have c13b0 : (t296 != t300) = false := by simpa using c13
          (try (have c13b1 : decide (t296 = t300) = true := by simpa using c13))
          (try (have c13b2 : (t296 == t300) = true := by simpa using c13))
          clear c13
          (first | rw [c13b0] | (simp only [i64_w, i32_w]; rw [c13b0]) | skip)
          have H' := Aside0.mk H
          clear H
          obtain ⟨Ao16, co16, eo16⟩ := Kd.R_slice HO298.out
          subst eo16
          obtain ⟨Ao17, co17, eo17⟩ := Kd.R_slice HO302.out
          subst eo17
          go_wp2_with (first | ((with_reducible refine gate_callee (f := 11) rfl ?_); refine goesL_ (some 28) rfl rfl Tryd.func11 (by kernel_rfl) rfl #[.slice Ao16 t295.length co16, .slice Ao17 t299.length co17] rfl (by (try simp only [List.map_toArray, List.map_cons, List.map_nil]); first | done | rfl | (simp only [List.length_drop, List.length_take]; rfl)) ?_; (with_reducible refine (laws_equalRanges.calls k _ _ t295 _ _ t299 true _ ?side1 ?side2 ?side3 ?side4 A11.out).mono ?_); (case side1 => repeat (first | exact (Kd.R_reads' HO298.out).2.2 | (with_reducible refine Kd.C_alloc ?_ _) | (with_reducible refine Kd.C_drewN ?_ _) | (with_reducible refine Kd.C_drew ?_))); (case side2 => exact (Kd.R_reads' HO298.out).2.1); (case side3 => repeat (first | exact (Kd.R_reads' HO302.out).2.2 | (with_reducible refine Kd.C_alloc ?_ _) | (with_reducible refine Kd.C_drewN ?_ _) | (with_reducible refine Kd.C_drew ?_))); (case side4 => exact (Kd.R_reads' HO302.out).2.1); rintro e w' ⟨rfl, ⟨nd, rfl⟩⟩; refine ⟨_, rfl, ?_⟩))
          go_meet
          case rel => exact ⟨_, (!t296), (by first | rfl | (simp; done) | (simp [*]; done)), H', ⟨by first | omega | exact Nat.le_refl _⟩, ⟨by (with_reducible repeat (first | apply Kd.Q_alloc | apply Kd.Q_drewN | apply Kd.Q_drew)); exact HO294.out⟩, ⟨by (with_reducible repeat (first | apply Kd.R_alloc | apply Kd.R_drewN | apply Kd.R_drew)); exact Kd.R_mono HO298.out (fun _ hk => hk.2)⟩, ⟨by (with_reducible repeat (first | apply Kd.R_alloc | apply Kd.R_drewN | apply Kd.R_drew)); exact Kd.R_mono HO302.out (fun _ hk => hk.2)⟩, ⟨by repeat (first | (with_reducible first | exact HB.out | apply below_alloc | apply pw_below_drewN | apply below_drew1) | exact HB.out)⟩⟩
      · replace c12 := Bool.eq_false_iff.mpr c12
        subst c12
        have H1 : (laws_FnCurveOfPrefix.j0 k t292 t295 t296 t299 t300 true) = some r := by rw [if_neg (show ¬ (false = true) by decide)] at H; exact H
        clear H
        have H := H1
        clear H1
        have H' := Aside0.mk H
        clear H
        obtain ⟨Ao18, co18, eo18⟩ := Kd.R_slice HO298.out
        subst eo18
        obtain ⟨Ao19, co19, eo19⟩ := Kd.R_slice HO302.out
        subst eo19
        go_wp2_with (first | ((with_reducible refine gate_callee (f := 11) rfl ?_); refine goesL_ (some 28) rfl rfl Tryd.func11 (by kernel_rfl) rfl #[.slice Ao18 t295.length co18, .slice Ao19 t299.length co19] rfl (by (try simp only [List.map_toArray, List.map_cons, List.map_nil]); first | done | rfl | (simp only [List.length_drop, List.length_take]; rfl)) ?_; (with_reducible refine (laws_equalRanges.calls k _ _ t295 _ _ t299 false _ ?side1 ?side2 ?side3 ?side4 A11.out).mono ?_); (case side1 => repeat (first | exact (Kd.R_reads' HO298.out).2.2 | (with_reducible refine Kd.C_alloc ?_ _) | (with_reducible refine Kd.C_drewN ?_ _) | (with_reducible refine Kd.C_drew ?_))); (case side2 => exact (Kd.R_reads' HO298.out).2.1); (case side3 => repeat (first | exact (Kd.R_reads' HO302.out).2.2 | (with_reducible refine Kd.C_alloc ?_ _) | (with_reducible refine Kd.C_drewN ?_ _) | (with_reducible refine Kd.C_drew ?_))); (case side4 => exact (Kd.R_reads' HO302.out).2.1); rintro e w' ⟨rfl, ⟨nd, rfl⟩⟩; refine ⟨_, rfl, ?_⟩))
        go_meet
        case rel => exact ⟨_, (true), (by first | rfl | (simp; done) | (simp [*]; done)), H', ⟨by first | omega | exact Nat.le_refl _⟩, ⟨by (with_reducible repeat (first | apply Kd.Q_alloc | apply Kd.Q_drewN | apply Kd.Q_drew)); exact HO294.out⟩, ⟨by (with_reducible repeat (first | apply Kd.R_alloc | apply Kd.R_drewN | apply Kd.R_drew)); exact Kd.R_mono HO298.out (fun _ hk => hk.2)⟩, ⟨by (with_reducible repeat (first | apply Kd.R_alloc | apply Kd.R_drewN | apply Kd.R_drew)); exact Kd.R_mono HO302.out (fun _ hk => hk.2)⟩, ⟨by repeat (first | (with_reducible first | exact HB.out | apply below_alloc | apply pw_below_drewN | apply below_drew1) | exact HB.out)⟩⟩
    case rest =>
      clear HC6
      try clear c1
      try clear c2
      try clear c2b0
      try clear c2b1
      try clear p2
      try clear c5
      try clear c8
      try clear c9
      try clear c10
      try clear c11
      try clear c12
      try clear c13
      try clear c13b0
      try clear c13b1
      try clear c13b2
      obtain ⟨kq, x38_5, rfl, HA, HJ5, HO_3, HO_4, HO_6, HB⟩ := hcut
      cases kq with
      | zero => exact absurd HA.out (by simp [laws_FnCurveOfPrefix.j0])
      | succ kj5 =>
        have H := HA.out
        clear HA
        simp only [laws_FnCurveOfPrefix.j0] at H
        by_cases c20 : x38_5 = true
        · subst c20
          have H1 : ((laws_equalRanges.f kj5 t295 t299).bind fun t304 => (if t304 = true then (some (t296 == t300)) else (some false))) = some r := by rw [if_pos rfl] at H; exact H
          clear H
          have H := H1
          clear H1
          replace H := Option.bind_eq_some_iff.mp H
          obtain ⟨t304, A210, H⟩ := H
          replace H : (if t304 = true then (some (t296 == t300)) else (some false)) = some r := H
          have A21 := Aside0.mk A210
          clear A210
          by_cases c22 : t304 = true
          · subst c22
            have H1 : (some (t296 == t300)) = some r := by rw [if_pos rfl] at H; exact H
            clear H
            have H := H1
            clear H1
            obtain rfl := Option.some.inj H
            obtain ⟨Ao23, co23, eo23⟩ := Kd.R_slice HO_4.out
            subst eo23
            obtain ⟨Ao24, co24, eo24⟩ := Kd.R_slice HO_6.out
            subst eo24
            go_wp2_with (first | ((with_reducible refine gate_callee (f := 11) rfl ?_); refine goesL_ (some 41) rfl rfl Tryd.func11 (by kernel_rfl) rfl #[.slice Ao23 t295.length co23, .slice Ao24 t299.length co24] rfl (by (try simp only [List.map_toArray, List.map_cons, List.map_nil]); first | done | rfl | (simp only [List.length_drop, List.length_take]; rfl)) ?_; (with_reducible refine (laws_equalRanges.calls kj5 _ _ t295 _ _ t299 true _ ?side1 ?side2 ?side3 ?side4 A21.out).mono ?_); (case side1 => repeat (first | exact (Kd.R_reads' HO_4.out).2.2 | (with_reducible refine Kd.C_alloc ?_ _) | (with_reducible refine Kd.C_drewN ?_ _) | (with_reducible refine Kd.C_drew ?_))); (case side2 => exact (Kd.R_reads' HO_4.out).2.1); (case side3 => repeat (first | exact (Kd.R_reads' HO_6.out).2.2 | (with_reducible refine Kd.C_alloc ?_ _) | (with_reducible refine Kd.C_drewN ?_ _) | (with_reducible refine Kd.C_drew ?_))); (case side4 => exact (Kd.R_reads' HO_6.out).2.1); rintro e w' ⟨rfl, ⟨nd, rfl⟩⟩; refine ⟨_, rfl, ?_⟩))
            go_ret
            exact ⟨by first | rfl | (simp [errW_none, errW_some] <;> rfl) | (simp [*, errW_none, errW_some] <;> rfl), by repeat (first | (with_reducible first | exact HB.out | apply below_alloc | apply pw_below_drewN | apply below_drew1) | exact HB.out)⟩
          · replace c22 := Bool.eq_false_iff.mpr c22
            subst c22
            have H1 : (some false) = some r := by rw [if_neg (show ¬ (false = true) by decide)] at H; exact H
            clear H
            have H := H1
            clear H1
            obtain rfl := Option.some.inj H
            obtain ⟨Ao25, co25, eo25⟩ := Kd.R_slice HO_4.out
            subst eo25
            obtain ⟨Ao26, co26, eo26⟩ := Kd.R_slice HO_6.out
            subst eo26
            go_wp2_with (first | ((with_reducible refine gate_callee (f := 11) rfl ?_); refine goesL_ (some 41) rfl rfl Tryd.func11 (by kernel_rfl) rfl #[.slice Ao25 t295.length co25, .slice Ao26 t299.length co26] rfl (by (try simp only [List.map_toArray, List.map_cons, List.map_nil]); first | done | rfl | (simp only [List.length_drop, List.length_take]; rfl)) ?_; (with_reducible refine (laws_equalRanges.calls kj5 _ _ t295 _ _ t299 false _ ?side1 ?side2 ?side3 ?side4 A21.out).mono ?_); (case side1 => repeat (first | exact (Kd.R_reads' HO_4.out).2.2 | (with_reducible refine Kd.C_alloc ?_ _) | (with_reducible refine Kd.C_drewN ?_ _) | (with_reducible refine Kd.C_drew ?_))); (case side2 => exact (Kd.R_reads' HO_4.out).2.1); (case side3 => repeat (first | exact (Kd.R_reads' HO_6.out).2.2 | (with_reducible refine Kd.C_alloc ?_ _) | (with_reducible refine Kd.C_drewN ?_ _) | (with_reducible refine Kd.C_drew ?_))); (case side4 => exact (Kd.R_reads' HO_6.out).2.1); rintro e w' ⟨rfl, ⟨nd, rfl⟩⟩; refine ⟨_, rfl, ?_⟩))
            go_ret
            exact ⟨by first | rfl | (simp [errW_none, errW_some] <;> rfl) | (simp [*, errW_none, errW_some] <;> rfl), by repeat (first | (with_reducible first | exact HB.out | apply below_alloc | apply pw_below_drewN | apply below_drew1) | exact HB.out)⟩
        · replace c20 := Bool.eq_false_iff.mpr c20
          subst c20
          have H1 : (if 0 ≤ (wrap64 (Int.tdiv (wrap64 ((t292.length : Int) + 1)) 2)) then (if (wrap64 (Int.tdiv (wrap64 ((t292.length : Int) + 1)) 2)) ≤ (t292.length : Int) then ((impl_CurveOf.f kj5 (t292.take ((wrap64 (Int.tdiv (wrap64 ((t292.length : Int) + 1)) 2)) : Int).toNat)).bind fun bt309 => (if bt309.2 = true then (if (wrap64 (Int.tdiv (wrap64 ((t292.length : Int) + 1)) 2)) ≤ (t295.length : Int) then ((laws_equalRanges.f kj5 bt309.1 (t295.take ((wrap64 (Int.tdiv (wrap64 ((t292.length : Int) + 1)) 2)) : Int).toNat)).bind fun t317 => (some t317)) else (none)) else (some false))) else (none)) else (none)) = some r := by rw [if_neg (show ¬ (false = true) by decide)] at H; exact H
          clear H
          have H := H1
          clear H1
          obtain ⟨ji27, hji27⟩ : ∃ j_ : Int, (wrap64 (Int.tdiv (wrap64 ((t292.length : Int) + 1)) 2)) = j_ := ⟨_, rfl⟩
          replace H : (if 0 ≤ (ji27) then (if (ji27) ≤ (t292.length : Int) then ((impl_CurveOf.f kj5 (t292.take ((ji27) : Int).toNat)).bind fun bt309 => (if bt309.2 = true then (if (ji27) ≤ (t295.length : Int) then ((laws_equalRanges.f kj5 bt309.1 (t295.take ((ji27) : Int).toNat)).bind fun t317 => (some t317)) else (none)) else (some false))) else (none)) else (none)) = some r := by first | (rw [hji27] at H; exact H) | (simp only [hji27] at H ⊢; exact H)
          have hji27w : (IntKind.i64.wrap (Int.tdiv (wrap64 ((t292.length : Int) + 1)) 2)) = ji27 := (i64_w _).trans hji27
          by_cases c28 : 0 ≤ (ji27)
          · rw [if_pos c28] at H
            have c28b0 := eq_true c28
            have c28b1 : decide (0 ≤ (ji27)) = true := decide_eq_true c28
            clear c28
            by_cases c29 : (ji27) ≤ (t292.length : Int)
            · rw [if_pos c29] at H
              have c29b0 := eq_true c29
              have c29b1 : decide ((ji27) ≤ (t292.length : Int)) = true := decide_eq_true c29
              clear c29
              obtain ⟨y305, hy305⟩ : ∃ y_ : List Int, y_ = (t292.take ((ji27) : Int).toNat) := ⟨_, rfl⟩
              replace H : ((impl_CurveOf.f kj5 y305).bind fun bt309 => (if bt309.2 = true then (if (ji27) ≤ (t295.length : Int) then ((laws_equalRanges.f kj5 bt309.1 (t295.take ((ji27) : Int).toNat)).bind fun t317 => (some t317)) else (none)) else (some false))) = some r := by first | (rw [hy305]; with_reducible exact H) | (have H2_ := (Option.bind_some _ _).symm.trans H; rw [hy305]; with_reducible exact H2_) | (have H2_ := (Option.bind_some _ _).symm.trans H; with_reducible exact H2_) | with_reducible exact H | (rw [hy305]; exact H) | exact H
              have Ny305 := Aside0.mk hy305
              clear hy305
              replace H := Option.bind_eq_some_iff.mp H
              obtain ⟨⟨t309, t310⟩, A300, H⟩ := H
              replace H : (if t310 = true then (if (ji27) ≤ (t295.length : Int) then ((laws_equalRanges.f kj5 t309 (t295.take ((ji27) : Int).toNat)).bind fun t317 => (some t317)) else (none)) else (some false)) = some r := H
              have A30 := Aside0.mk A300
              clear A300
              by_cases c31 : t310 = true
              · subst c31
                have H1 : (if (ji27) ≤ (t295.length : Int) then ((laws_equalRanges.f kj5 t309 (t295.take ((ji27) : Int).toNat)).bind fun t317 => (some t317)) else (none)) = some r := by rw [if_pos rfl] at H; exact H
                clear H
                have H := H1
                clear H1
                have c32b0 := eq_true (of_decide_eq_true (by first | (with_reducible assumption) | assumption) : 0 ≤ (ji27))
                by_cases c33 : (ji27) ≤ (t295.length : Int)
                · rw [if_pos c33] at H
                  have c33b0 := eq_true c33
                  have c33b1 : decide ((ji27) ≤ (t295.length : Int)) = true := decide_eq_true c33
                  clear c33
                  obtain ⟨y313, hy313⟩ : ∃ y_ : List (S30), y_ = (t295.take ((ji27) : Int).toNat) := ⟨_, rfl⟩
                  replace H : ((laws_equalRanges.f kj5 t309 y313).bind fun t317 => (some t317)) = some r := by first | (rw [hy313]; with_reducible exact H) | (have H2_ := (Option.bind_some _ _).symm.trans H; rw [hy313]; with_reducible exact H2_) | (have H2_ := (Option.bind_some _ _).symm.trans H; with_reducible exact H2_) | with_reducible exact H | (rw [hy313]; exact H) | exact H
                  have Ny313 := Aside0.mk hy313
                  clear hy313
                  replace H := Option.bind_eq_some_iff.mp H
                  obtain ⟨t317, A340, H⟩ := H
                  replace H : (some t317) = some r := H
                  have A34 := Aside0.mk A340
                  clear A340
                  obtain rfl := Option.some.inj H
                  have q35 : ((ji27) : Int) ≤ ((t292.length : Int) : Int) := of_decide_eq_true (by first | (with_reducible assumption) | assumption)
                  obtain ⟨i035, hi035, _, hsz35, _⟩ := info_parts info3
                  have hroom35 : t292.length ≤ co8 := (Kd.Q_reads' HO_3.out).2.1
                  have hC35 : Kd.C (Kd.int .i64) _ Ao8 t292.length t292 := (Kd.Q_reads' HO_3.out).2.2
                  have hcut35 := cut_to (P := Tryd.prog) 23 3 .i64 Tryd.underlying23 hi035 Ao8 t292.length co8 (ji27) (of_decide_eq_true (by first | (with_reducible assumption) | assumption)) q35 hroom35
                  have hr35 := Kd.C_take (m := ((ji27) : Int).toNat) hC35 (by omega)
                  have hy35 : y305.length = ((ji27) : Int).toNat := (by rw [Ny305.out, List.length_take]; omega)
                  rw [← Ny305.out] at hr35
                  rw [← hy35] at hcut35
                  have HR308 := Aside0.mk hr35
                  have HC308 := Aside0.mk (show y305.length ≤ co8 from by omega)
                  clear hr35 hC35 hroom35 hi035 hsz35
                  have KY35 := Aside0.mk hy35
                  clear hy35
                  have KL35 := Aside0.mk (show ((ji27) : Int).toNat ≤ t292.length from by omega)
                  replace q35 := eq_true q35
                  go_wp2_with (first | ((with_reducible refine gate_callee (f := 9) rfl ?_); refine goesL_ (some 55) rfl rfl Tryd.func9 (by kernel_rfl) rfl #[.slice Ao8 y305.length co8] rfl (by (try simp only [List.map_toArray, List.map_cons, List.map_nil]); first | done | rfl | (simp only [List.length_drop, List.length_take]; rfl)) ?_; (with_reducible refine (impl_CurveOf.calls kj5 _ _ y305 t309 true _ ?side1 ?side2 ?side3 A30.out).mono ?_); (case side1 => repeat (first | exact (by repeat (first | (with_reducible exact HR308.out) | (with_reducible refine Kd.C_alloc ?_ _) | (with_reducible refine Kd.C_drewN ?_ _) | (with_reducible refine Kd.C_drew ?_) | exact HR308.out)) | (with_reducible refine Kd.C_alloc ?_ _) | (with_reducible refine Kd.C_drewN ?_ _) | (with_reducible refine Kd.C_drew ?_))); (case side2 => exact HC308.out); (case side3 => first | exact HTab.out | exact Tab.below HTab.out (bl_ HB)); rintro e w36 ⟨v311, rfl, ho0, hb⟩; refine ⟨_, rfl, ?_⟩; have n0_ := Aside0.mk (Kd.Q_below (by (with_reducible repeat (first | apply Kd.Q_alloc | apply Kd.Q_drewN | apply Kd.Q_drew)); exact HO_3.out) hb); have n1_ := Aside0.mk (Kd.R_elder' (kr_ HO_4) (Kd.R_base ho0) hb); have n2_ := Aside0.mk (Kd.R_elder' (kr_ HO_6) (Kd.R_base ho0) hb); have n3_ := Aside0.mk (Kd.R_lower (Kd.R_new' (Kd.R_new' ho0 (Kd.R_lt (kr_ HO_4))) (Kd.R_lt (kr_ HO_6))) (below_size (bl_ HB))); have n4_ := Aside0.mk (Kd.C_below (by repeat (first | (with_reducible exact HR308.out) | (with_reducible refine Kd.C_alloc ?_ _) | (with_reducible refine Kd.C_drewN ?_ _) | (with_reducible refine Kd.C_drew ?_) | exact HR308.out)) hb); have n5_ := Aside0.mk (below_step (bl_ HB) hb); clear HO_3; clear HO_4; clear HO_6; clear HR308; clear HB; have HO_3 := n0_; have HO_4 := n1_; have HO_6 := n2_; have HO312 := n3_; have HR308 := n4_; have HB := n5_; clear n0_ n1_ n2_ n3_ n4_ n5_; (try clear hb); (try clear hb2); (try clear hk); (try clear hi); (try clear ho0); obtain ⟨Ao38, co38, eo38⟩ := Kd.R_slice HO_4.out; subst eo38; have q37 : ((ji27) : Int) ≤ ((t295.length : Int) : Int) := of_decide_eq_true (by first | (with_reducible assumption) | assumption); obtain ⟨i037, hi037, _, hsz37, _⟩ := info_parts info30; have hroom37 : t295.length ≤ co38 := (Kd.R_reads' HO_4.out).2.1; have hC37 : Kd.C k30 _ Ao38 t295.length t295 := (Kd.R_reads' HO_4.out).2.2; have hcut37 := cut_to (P := Tryd.prog) 25 30 .i64 Tryd.underlying25 hi037 Ao38 t295.length co38 (ji27) (of_decide_eq_true (by first | (with_reducible assumption) | assumption)) q37 hroom37; have hr37 := Kd.C_take (m := ((ji27) : Int).toNat) hC37 (by omega); have hy37 : y313.length = ((ji27) : Int).toNat := (by rw [Ny313.out, List.length_take]; omega); rw [← Ny313.out] at hr37; rw [← hy37] at hcut37; have HR316 := Aside0.mk hr37; have HC316 := Aside0.mk (show y313.length ≤ co38 from by omega); clear hr37 hC37 hroom37 hi037 hsz37; have KY37 := Aside0.mk hy37; clear hy37; have KL37 := Aside0.mk (show ((ji27) : Int).toNat ≤ t295.length from by omega); replace q37 := eq_true q37; obtain ⟨Ao39, co39, eo39⟩ := Kd.R_slice HO312.out; subst eo39) | (go_at_call 11; (with_reducible refine (laws_equalRanges.calls kj5 _ _ t309 _ _ y313 t317 _ ?side1 ?side2 ?side3 ?side4 A34.out).mono ?_); (case side1 => repeat (first | exact (Kd.R_reads' HO312.out).2.2 | (with_reducible refine Kd.C_alloc ?_ _) | (with_reducible refine Kd.C_drewN ?_ _) | (with_reducible refine Kd.C_drew ?_))); (case side2 => exact (Kd.R_reads' HO312.out).2.1); (case side3 => repeat (first | exact (by repeat (first | (with_reducible exact HR316.out) | (with_reducible refine Kd.C_alloc ?_ _) | (with_reducible refine Kd.C_drewN ?_ _) | (with_reducible refine Kd.C_drew ?_) | exact HR316.out)) | (with_reducible refine Kd.C_alloc ?_ _) | (with_reducible refine Kd.C_drewN ?_ _) | (with_reducible refine Kd.C_drew ?_))); (case side4 => exact HC316.out); rintro e w' ⟨rfl, ⟨nd, rfl⟩⟩))
                  go_ret
                  exact ⟨by first | rfl | (simp [errW_none, errW_some] <;> rfl) | (simp only [← hji27]; first | rfl | (simp [errW_none, errW_some] <;> rfl)) | (simp [*, errW_none, errW_some] <;> rfl), by repeat (first | (with_reducible first | exact HB.out | apply below_alloc | apply pw_below_drewN | apply below_drew1) | exact HB.out)⟩
                · rw [if_neg c33] at H
                  exact absurd H (by simp)
              · replace c31 := Bool.eq_false_iff.mpr c31
                subst c31
                have H1 : (some false) = some r := by rw [if_neg (show ¬ (false = true) by decide)] at H; exact H
                clear H
                have H := H1
                clear H1
                obtain rfl := Option.some.inj H
                have q40 : ((ji27) : Int) ≤ ((t292.length : Int) : Int) := of_decide_eq_true (by first | (with_reducible assumption) | assumption)
                obtain ⟨i040, hi040, _, hsz40, _⟩ := info_parts info3
                have hroom40 : t292.length ≤ co8 := (Kd.Q_reads' HO_3.out).2.1
                have hC40 : Kd.C (Kd.int .i64) _ Ao8 t292.length t292 := (Kd.Q_reads' HO_3.out).2.2
                have hcut40 := cut_to (P := Tryd.prog) 23 3 .i64 Tryd.underlying23 hi040 Ao8 t292.length co8 (ji27) (of_decide_eq_true (by first | (with_reducible assumption) | assumption)) q40 hroom40
                have hr40 := Kd.C_take (m := ((ji27) : Int).toNat) hC40 (by omega)
                have hy40 : y305.length = ((ji27) : Int).toNat := (by rw [Ny305.out, List.length_take]; omega)
                rw [← Ny305.out] at hr40
                rw [← hy40] at hcut40
                have HR308 := Aside0.mk hr40
                have HC308 := Aside0.mk (show y305.length ≤ co8 from by omega)
                clear hr40 hC40 hroom40 hi040 hsz40
                have KY40 := Aside0.mk hy40
                clear hy40
                have KL40 := Aside0.mk (show ((ji27) : Int).toNat ≤ t292.length from by omega)
                replace q40 := eq_true q40
                go_wp2_with (first | ((with_reducible refine gate_callee (f := 9) rfl ?_); refine goesL_ (some 55) rfl rfl Tryd.func9 (by kernel_rfl) rfl #[.slice Ao8 y305.length co8] rfl (by (try simp only [List.map_toArray, List.map_cons, List.map_nil]); first | done | rfl | (simp only [List.length_drop, List.length_take]; rfl)) ?_; (with_reducible refine (impl_CurveOf.calls kj5 _ _ y305 t309 false _ ?side1 ?side2 ?side3 A30.out).mono ?_); (case side1 => repeat (first | exact (by repeat (first | (with_reducible exact HR308.out) | (with_reducible refine Kd.C_alloc ?_ _) | (with_reducible refine Kd.C_drewN ?_ _) | (with_reducible refine Kd.C_drew ?_) | exact HR308.out)) | (with_reducible refine Kd.C_alloc ?_ _) | (with_reducible refine Kd.C_drewN ?_ _) | (with_reducible refine Kd.C_drew ?_))); (case side2 => exact HC308.out); (case side3 => first | exact HTab.out | exact Tab.below HTab.out (bl_ HB)); rintro e w41 ⟨v311, rfl, ho0, hb⟩; refine ⟨_, rfl, ?_⟩; have n0_ := Aside0.mk (Kd.Q_below (by (with_reducible repeat (first | apply Kd.Q_alloc | apply Kd.Q_drewN | apply Kd.Q_drew)); exact HO_3.out) hb); have n1_ := Aside0.mk (Kd.R_elder' (kr_ HO_4) (Kd.R_base ho0) hb); have n2_ := Aside0.mk (Kd.R_elder' (kr_ HO_6) (Kd.R_base ho0) hb); have n3_ := Aside0.mk (Kd.R_lower (Kd.R_new' (Kd.R_new' ho0 (Kd.R_lt (kr_ HO_4))) (Kd.R_lt (kr_ HO_6))) (below_size (bl_ HB))); have n4_ := Aside0.mk (Kd.C_below (by repeat (first | (with_reducible exact HR308.out) | (with_reducible refine Kd.C_alloc ?_ _) | (with_reducible refine Kd.C_drewN ?_ _) | (with_reducible refine Kd.C_drew ?_) | exact HR308.out)) hb); have n5_ := Aside0.mk (below_step (bl_ HB) hb); clear HO_3; clear HO_4; clear HO_6; clear HR308; clear HB; have HO_3 := n0_; have HO_4 := n1_; have HO_6 := n2_; have HO312 := n3_; have HR308 := n4_; have HB := n5_; clear n0_ n1_ n2_ n3_ n4_ n5_; (try clear hb); (try clear hb2); (try clear hk); (try clear hi); (try clear ho0)))
                go_ret
                exact ⟨by first | rfl | (simp [errW_none, errW_some] <;> rfl) | (simp only [← hji27]; first | rfl | (simp [errW_none, errW_some] <;> rfl)) | (simp [*, errW_none, errW_some] <;> rfl), by repeat (first | (with_reducible first | exact HB.out | apply below_alloc | apply pw_below_drewN | apply below_drew1) | exact HB.out)⟩
            · rw [if_neg c29] at H
              exact absurd H (by simp)
          · rw [if_neg c28] at H
            exact absurd H (by simp)

/-- THE ONE PURE STATEMENT of laws_FnCurveOfPrefix: yours. -/
def laws_FnCurveOfPrefix.Pure : Prop := ∀ (l0 : List Int), l0.length ≤ maxLen → l0.length * 1 ≤ 140737488351232 → (∀ x ∈ l0, (Lit.int .u8 x).wf = true) → ∃ k, laws_FnCurveOfPrefix.f k l0 = some true
theorem laws_FnCurveOfPrefix.walk (P : laws_FnCurveOfPrefix.Pure) (a0 : Option Addr) (len0 cap0 : Nat) (z0 : List Int) (w : World) (w0 : (a0 = none ∧ len0 = 0 ∧ cap0 = 0 ∧ z0 = []) ∨ ∃ x, a0 = some x ∧ len0 ≤ cap0 ∧ cap0 ≤ maxLen ∧ z0.length = cap0 ∧ (∀ i, i < z0.length → w.cell? (x.add i) = some (.int .u8 (z0.getD i 0))) ∧ ∀ n ∈ z0, (Lit.int .u8 n).wf = true) (y0 : len0 * 1 ≤ 140737488351232) (hT : Tab w) :
    Calls Tryd.prog 5 #[.slice a0 len0 cap0] w fun e w' => e = .returned (.bool true) ∧ Below w.heap.size w w' := by
  obtain ⟨l0, rfl, hr0, hm0, hw0, hc0⟩ := ReadsInt.ofRowC w0
  obtain ⟨k, h⟩ := P l0 hm0 y0 hw0
  refine (laws_FnCurveOfPrefix.calls k _ _ l0 true w (Kd.C_of_reads (d := (0 : Int)) (h1 := fun _ => rfl) hr0) hc0 hT h).mono ?_
  rintro e w' ⟨rfl, hd⟩
  exact ⟨rfl, hd⟩

end Go.Proofs.YtomhnfajnbhaoaaDoor.Q

/- Printed by a program (bprint.py) out of the translation: for each Go function a Lean function, and the proof that the call comes to its answers. Conditions: they stand in each theorem. -/
import Derived.Test.YtpijjacnbpnlfaaDoorQx0
import Derived.Test.YtpijjacnbpnlfaaDoorQx4
import Derived.Test.YtpijjacnbpnlfaaDoorQx5
import Derived.Test.YtpijjacnbpnlfaaDoorTab
namespace Go.Proofs.YtpijjacnbpnlfaaDoor.Q
open Go.RowKit Go.Proofs.YtpijjacnbpnlfaaDoorW.PrintWords Go.Proofs.YtpijjacnbpnlfaaDoorW.PrintLast Go.Proofs.YtpijjacnbpnlfaaDoorW.PrintMore
attribute [local go_sem] max2_int min2_int max_two min_two max_three min_three max_four min_four   -- for this text's walks alone
set_option linter.unusedVariables false
set_option linter.unusedSimpArgs false
set_option linter.unusedSectionVars false
variable [Sent]

/-! ### laws_FnSureCurveParts: function 3 -/
def laws_FnSureCurveParts.j0 : Nat → List (S30) → Bool → Bool → Option (Bool)
  | 0, _, _, _ => none
  | k + 1, x3, x4, x24 => if x24 = true then ((spec_SureCurve.f k x3).bind fun t252 => (some (x4 == t252))) else (if 0 ≤ (wrap64 ((x3.length : Int) - 1)) then (if (wrap64 ((x3.length : Int) - 1)) ≤ (x3.length : Int) then ((impl_SureCurve.f k (x3.take ((wrap64 ((x3.length : Int) - 1)) : Int).toNat)).bind fun t257 => (if t257 = true then (if 1 ≤ (x3.length : Int) then ((impl_SureCurve.f k (x3.drop 1)).bind fun t262 => (some t262)) else (none)) else (some false))) else (none)) else (none))
def laws_FnSureCurveParts.f (k : Nat) (l0 : List Int) : Option (Bool) := if (l0.length : Int) > 1048576 then (some true) else ((spec_DrawSureCurve.f k l0).bind fun t247 => ((impl_SureCurve.f k t247).bind fun t250 => ((spec_SureCurve.f k t247).bind fun t251 => (if (t250 != t251) = true then (laws_FnSureCurveParts.j0 k t247 t250 true) else (if t250 = true then (laws_FnSureCurveParts.j0 k t247 t250 (decide ((t247.length : Int) < 2))) else (laws_FnSureCurveParts.j0 k t247 t250 true))))))
theorem laws_FnSureCurveParts.mono_l : ∀ k, (∀ y0 y1 y2, LeO (laws_FnSureCurveParts.j0 k y0 y1 y2) (laws_FnSureCurveParts.j0 (k + 1) y0 y1 y2))
  | 0 => fun _ _ _ r h => by simp [laws_FnSureCurveParts.j0] at h
  | k + 1 => by
    have ih0 := laws_FnSureCurveParts.mono_l k
    · intro y0 y1 y2
      unfold laws_FnSureCurveParts.j0
      repeat' first
      | (with_reducible exact ih0 _ _ _)
      | (with_reducible exact impl_SureCurve.mono _ _)
      | (with_reducible exact spec_DrawSureCurve.mono _ _)
      | (with_reducible exact spec_SureCurve.mono _ _)
      | (with_reducible exact LeO.refl _)
      | (with_reducible exact LeO.none _)
      | (with_reducible refine LeO.ite ?_ ?_)
      | (with_reducible refine LeO.bind ?_ (fun _ => ?_))
      | exact ih0 _ _ _
      | exact impl_SureCurve.mono _ _
      | exact spec_DrawSureCurve.mono _ _
      | exact spec_SureCurve.mono _ _
      | exact LeO.none _
      | refine LeO.ite ?_ ?_
      | refine LeO.bind ?_ (fun _ => ?_)
theorem laws_FnSureCurveParts.mono : ∀ a0 k, LeO (laws_FnSureCurveParts.f k a0) (laws_FnSureCurveParts.f (k + 1) a0) := by
  intro a0 k
  have ih0 := laws_FnSureCurveParts.mono_l k
  unfold laws_FnSureCurveParts.f
  repeat' first
      | (with_reducible exact ih0 _ _ _)
      | (with_reducible exact impl_SureCurve.mono _ _)
      | (with_reducible exact spec_DrawSureCurve.mono _ _)
      | (with_reducible exact spec_SureCurve.mono _ _)
      | (with_reducible exact LeO.refl _)
      | (with_reducible exact LeO.none _)
      | (with_reducible refine LeO.ite ?_ ?_)
      | (with_reducible refine LeO.bind ?_ (fun _ => ?_))
      | exact ih0 _ _ _
      | exact impl_SureCurve.mono _ _
      | exact spec_DrawSureCurve.mono _ _
      | exact spec_SureCurve.mono _ _
      | exact LeO.none _
      | refine LeO.ite ?_ ?_
      | refine LeO.bind ?_ (fun _ => ?_)
set_option maxHeartbeats 8000000 in
set_option maxRecDepth 100000 in
theorem laws_FnSureCurveParts.calls (k : Nat) (A0 : Option Addr) (c0 : Nat) (l0 : List Int) (r : Bool) (w : World) (hr0 : Kd.C (Kd.int .u8) w A0 l0.length l0) (hc0 : l0.length ≤ c0) (hT : Tab w) (h : laws_FnSureCurveParts.f k l0 = some r) :
    Calls Tryd.prog 3 #[.slice A0 l0.length c0] w fun e w' => e = .returned (.bool r) ∧ Below w.heap.size w w' := by
  have HTab := Aside0.mk hT
  clear hT
  have HR0 := Aside0.mk hr0
  have HC0 := Aside0.mk hc0
  clear hr0 hc0
  have HB := Aside0.mk (Below.refl w.heap.size w)
  have H : (if (l0.length : Int) > 1048576 then (some true) else ((spec_DrawSureCurve.f k l0).bind fun t247 => ((impl_SureCurve.f k t247).bind fun t250 => ((spec_SureCurve.f k t247).bind fun t251 => (if (t250 != t251) = true then (laws_FnSureCurveParts.j0 k t247 t250 true) else (if t250 = true then (laws_FnSureCurveParts.j0 k t247 t250 (decide ((t247.length : Int) < 2))) else (laws_FnSureCurveParts.j0 k t247 t250 true))))))) = some r := h
  clear h
  by_cases c2 : (l0.length : Int) > 1048576
  · rw [if_pos c2] at H
    have c2b0 : decide (1048576 < (l0.length : Int)) = true := decide_eq_true c2
    have c2b1 : decide (1048576 < l0.length) = true := decide_eq_true (by omega)
    clear c2
    obtain rfl := Option.some.inj H
    go_enter Tryd.func3, Tryd.ntmps3
    go_wp2
    go_ret
    exact ⟨by first | rfl | (simp [errW_none, errW_some] <;> rfl) | (simp [*, errW_none, errW_some] <;> rfl), by repeat (first | (with_reducible first | exact HB.out | apply below_alloc | apply pw_below_drewN | apply below_drew1) | exact HB.out)⟩
  · rw [if_neg c2] at H
    have c2b0 : decide (1048576 < (l0.length : Int)) = false := decide_eq_false c2
    have c2b1 : decide (1048576 < l0.length) = false := decide_eq_false (by omega)
    clear c2
    replace H := Option.bind_eq_some_iff.mp H
    obtain ⟨t247, A30, H⟩ := H
    replace H : ((impl_SureCurve.f k t247).bind fun t250 => ((spec_SureCurve.f k t247).bind fun t251 => (if (t250 != t251) = true then (laws_FnSureCurveParts.j0 k t247 t250 true) else (if t250 = true then (laws_FnSureCurveParts.j0 k t247 t250 (decide ((t247.length : Int) < 2))) else (laws_FnSureCurveParts.j0 k t247 t250 true))))) = some r := H
    have A3 := Aside0.mk A30
    clear A30
    replace H := Option.bind_eq_some_iff.mp H
    obtain ⟨t250, A40, H⟩ := H
    replace H : ((spec_SureCurve.f k t247).bind fun t251 => (if (t250 != t251) = true then (laws_FnSureCurveParts.j0 k t247 t250 true) else (if t250 = true then (laws_FnSureCurveParts.j0 k t247 t250 (decide ((t247.length : Int) < 2))) else (laws_FnSureCurveParts.j0 k t247 t250 true)))) = some r := H
    have A4 := Aside0.mk A40
    clear A40
    have HC5 := Aside0.mk H
    clear H
    go_enter Tryd.func3, Tryd.ntmps3
    go_upto_region 5 with (first | ((with_reducible refine gate_callee (f := 9) rfl ?_); refine goesL_ (some 9) rfl rfl Tryd.func9 (by kernel_rfl) rfl #[.slice A0 l0.length c0] rfl (by (try simp only [List.map_toArray, List.map_cons, List.map_nil]); first | done | rfl | (simp only [List.length_drop, List.length_take]; rfl)) ?_; (with_reducible refine (spec_DrawSureCurve.calls k _ _ l0 t247 _ ?side1 ?side2 A3.out).mono ?_); (case side1 => repeat (first | exact HR0.out | (with_reducible refine Kd.C_alloc ?_ _) | (with_reducible refine Kd.C_drewN ?_ _) | (with_reducible refine Kd.C_drew ?_))); (case side2 => exact HC0.out); rintro e w6 ⟨v248, rfl, ho0, hb⟩; refine ⟨_, rfl, ?_⟩; have n0_ := Aside0.mk (Kd.R_lower ho0 (below_size (bl_ HB))); have n1_ := Aside0.mk (below_step (bl_ HB) hb); clear HB; have HO249 := n0_; have HB := n1_; clear n0_ n1_; (try clear hb); (try clear hb2); (try clear hk); (try clear hi); (try clear ho0); obtain ⟨Ao7, co7, eo7⟩ := Kd.R_slice HO249.out; subst eo7) | ((with_reducible refine gate_callee (f := 10) rfl ?_); refine goesL_ (some 11) rfl rfl Tryd.func10 (by kernel_rfl) rfl #[.slice Ao7 t247.length co7] rfl (by (try simp only [List.map_toArray, List.map_cons, List.map_nil]); first | done | rfl | (simp only [List.length_drop, List.length_take]; rfl)) ?_; (with_reducible refine (impl_SureCurve.calls k _ _ t247 t250 _ ?side1 ?side2 ?side3 A4.out).mono ?_); (case side1 => repeat (first | exact (Kd.R_reads' HO249.out).2.2 | (with_reducible refine Kd.C_alloc ?_ _) | (with_reducible refine Kd.C_drewN ?_ _) | (with_reducible refine Kd.C_drew ?_))); (case side2 => exact (Kd.R_reads' HO249.out).2.1); (case side3 => first | exact HTab.out | exact Tab.below HTab.out (bl_ HB)); rintro e w8 ⟨rfl, hb⟩; refine ⟨_, rfl, ?_⟩; have n0_ := Aside0.mk (Kd.R_below (kr_ HO249) hb); have n1_ := Aside0.mk (below_step (bl_ HB) hb); clear HO249; clear HB; have HO249 := n0_; have HB := n1_; clear n0_ n1_; (try clear hb); (try clear hb2); (try clear hk); (try clear hi)))
    (try simp only [Act.put, sa_, sb_, sc_])
    go_cut [24] (fun v24 wc => ∃ (kq : Nat) (x24_4 : Bool), v24 = .bool x24_4 ∧ Aside0 (laws_FnSureCurveParts.j0 kq t247 t250 x24_4 = some r) ∧ Aside0 (kq ≤ k) ∧ Aside0 (Kd.R k30 30 wc w.heap.size (fun _ => True) (.slice Ao7 t247.length co7) t247) ∧ Aside0 (Below w.heap.size w wc))
    case first =>
      have H := HC5.out
      clear HC5
      replace H := Option.bind_eq_some_iff.mp H
      obtain ⟨t251, A90, H⟩ := H
      replace H : (if (t250 != t251) = true then (laws_FnSureCurveParts.j0 k t247 t250 true) else (if t250 = true then (laws_FnSureCurveParts.j0 k t247 t250 (decide ((t247.length : Int) < 2))) else (laws_FnSureCurveParts.j0 k t247 t250 true))) = some r := H
      have A9 := Aside0.mk A90
      clear A90
      by_cases c10 : (t250 != t251) = true
      · rw [if_pos c10] at H
        have c10b0 : (t250 != t251) = true := c10
        (try (have c10b1 : decide (t250 = t251) = false := by simpa using c10))
        (try (have c10b2 : (t250 == t251) = false := by simpa using c10))
        (try (have c10b3 : ¬ (t250 = t251) := by simpa using c10))
        clear c10
        (first | rw [c10b0] | (simp only [i64_w, i32_w]; rw [c10b0]) | skip)
        have H' := Aside0.mk H
        clear H
        go_wp2_with (first | ((with_reducible refine gate_callee (f := 11) rfl ?_); refine goesL_ (some 14) rfl rfl Tryd.func11 (by kernel_rfl) rfl #[.slice Ao7 t247.length co7] rfl (by (try simp only [List.map_toArray, List.map_cons, List.map_nil]); first | done | rfl | (simp only [List.length_drop, List.length_take]; rfl)) ?_; (with_reducible refine (spec_SureCurve.calls k _ _ t247 t251 _ ?side1 ?side2 A9.out).mono ?_); (case side1 => repeat (first | exact (Kd.R_reads' HO249.out).2.2 | (with_reducible refine Kd.C_alloc ?_ _) | (with_reducible refine Kd.C_drewN ?_ _) | (with_reducible refine Kd.C_drew ?_))); (case side2 => exact (Kd.R_reads' HO249.out).2.1); rintro e w11 ⟨rfl, hb⟩; refine ⟨_, rfl, ?_⟩; have n0_ := Aside0.mk (Kd.R_below (kr_ HO249) hb); have n1_ := Aside0.mk (below_step (bl_ HB) hb); clear HO249; clear HB; have HO249 := n0_; have HB := n1_; clear n0_ n1_; (try clear hb); (try clear hb2); (try clear hk); (try clear hi)))
        go_meet
        case rel => exact ⟨_, (true), (by first | rfl | (simp; done) | (simp [*]; done)), H', ⟨by first | omega | exact Nat.le_refl _⟩, ⟨by (with_reducible repeat (first | apply Kd.R_alloc | apply Kd.R_drewN | apply Kd.R_drew)); exact HO249.out⟩, ⟨by repeat (first | (with_reducible first | exact HB.out | apply below_alloc | apply pw_below_drewN | apply below_drew1) | exact HB.out)⟩⟩
      · rw [if_neg c10] at H
        have c10b0 : (t250 != t251) = false := by simpa using c10
        (try (have c10b1 : decide (t250 = t251) = true := by simpa using c10))
        (try (have c10b2 : (t250 == t251) = true := by simpa using c10))
        clear c10
        (first | rw [c10b0] | (simp only [i64_w, i32_w]; rw [c10b0]) | skip)
        by_cases c12 : t250 = true
        · subst c12
          have H1 : (laws_FnSureCurveParts.j0 k t247 true (decide ((t247.length : Int) < 2))) = some r := by rw [if_pos rfl] at H; exact H
          clear H
          have H := H1
          clear H1
          have H' := Aside0.mk H
          clear H
          go_wp2_with (first | ((with_reducible refine gate_callee (f := 11) rfl ?_); refine goesL_ (some 14) rfl rfl Tryd.func11 (by kernel_rfl) rfl #[.slice Ao7 t247.length co7] rfl (by (try simp only [List.map_toArray, List.map_cons, List.map_nil]); first | done | rfl | (simp only [List.length_drop, List.length_take]; rfl)) ?_; (with_reducible refine (spec_SureCurve.calls k _ _ t247 t251 _ ?side1 ?side2 A9.out).mono ?_); (case side1 => repeat (first | exact (Kd.R_reads' HO249.out).2.2 | (with_reducible refine Kd.C_alloc ?_ _) | (with_reducible refine Kd.C_drewN ?_ _) | (with_reducible refine Kd.C_drew ?_))); (case side2 => exact (Kd.R_reads' HO249.out).2.1); rintro e w13 ⟨rfl, hb⟩; refine ⟨_, rfl, ?_⟩; have n0_ := Aside0.mk (Kd.R_below (kr_ HO249) hb); have n1_ := Aside0.mk (below_step (bl_ HB) hb); clear HO249; clear HB; have HO249 := n0_; have HB := n1_; clear n0_ n1_; (try clear hb); (try clear hb2); (try clear hk); (try clear hi)))
          go_meet
          case rel => exact ⟨_, (decide ((t247.length : Int) < 2)), (by first | rfl | (simp; done) | (simp [*]; done)), H', ⟨by first | omega | exact Nat.le_refl _⟩, ⟨by (with_reducible repeat (first | apply Kd.R_alloc | apply Kd.R_drewN | apply Kd.R_drew)); exact HO249.out⟩, ⟨by repeat (first | (with_reducible first | exact HB.out | apply below_alloc | apply pw_below_drewN | apply below_drew1) | exact HB.out)⟩⟩
        · replace c12 := Bool.eq_false_iff.mpr c12
          subst c12
          have H1 : (laws_FnSureCurveParts.j0 k t247 false true) = some r := by rw [if_neg (show ¬ (false = true) by decide)] at H; exact H
          clear H
          have H := H1
          clear H1
          have H' := Aside0.mk H
          clear H
          go_wp2_with (first | ((with_reducible refine gate_callee (f := 11) rfl ?_); refine goesL_ (some 14) rfl rfl Tryd.func11 (by kernel_rfl) rfl #[.slice Ao7 t247.length co7] rfl (by (try simp only [List.map_toArray, List.map_cons, List.map_nil]); first | done | rfl | (simp only [List.length_drop, List.length_take]; rfl)) ?_; (with_reducible refine (spec_SureCurve.calls k _ _ t247 t251 _ ?side1 ?side2 A9.out).mono ?_); (case side1 => repeat (first | exact (Kd.R_reads' HO249.out).2.2 | (with_reducible refine Kd.C_alloc ?_ _) | (with_reducible refine Kd.C_drewN ?_ _) | (with_reducible refine Kd.C_drew ?_))); (case side2 => exact (Kd.R_reads' HO249.out).2.1); rintro e w14 ⟨rfl, hb⟩; refine ⟨_, rfl, ?_⟩; have n0_ := Aside0.mk (Kd.R_below (kr_ HO249) hb); have n1_ := Aside0.mk (below_step (bl_ HB) hb); clear HO249; clear HB; have HO249 := n0_; have HB := n1_; clear n0_ n1_; (try clear hb); (try clear hb2); (try clear hk); (try clear hi)))
          go_meet
          case rel => exact ⟨_, (true), (by first | rfl | (simp; done) | (simp [*]; done)), H', ⟨by first | omega | exact Nat.le_refl _⟩, ⟨by (with_reducible repeat (first | apply Kd.R_alloc | apply Kd.R_drewN | apply Kd.R_drew)); exact HO249.out⟩, ⟨by repeat (first | (with_reducible first | exact HB.out | apply below_alloc | apply pw_below_drewN | apply below_drew1) | exact HB.out)⟩⟩
    case rest =>
      clear HC5
      try clear c1
      try clear c2
      try clear c2b0
      try clear c2b1
      try clear p2
      try clear c3
      try clear c9
      try clear c10
      try clear c10b0
      try clear c10b1
      try clear c10b2
      try clear c11
      try clear c12
      obtain ⟨kq, x24_4, rfl, HA, HJ4, HO_3, HB⟩ := hcut
      cases kq with
      | zero => exact absurd HA.out (by simp [laws_FnSureCurveParts.j0])
      | succ kj4 =>
        have H := HA.out
        clear HA
        simp only [laws_FnSureCurveParts.j0] at H
        by_cases c15 : x24_4 = true
        · subst c15
          have H1 : ((spec_SureCurve.f kj4 t247).bind fun t252 => (some (t250 == t252))) = some r := by rw [if_pos rfl] at H; exact H
          clear H
          have H := H1
          clear H1
          replace H := Option.bind_eq_some_iff.mp H
          obtain ⟨t252, A160, H⟩ := H
          replace H : (some (t250 == t252)) = some r := H
          have A16 := Aside0.mk A160
          clear A160
          obtain rfl := Option.some.inj H
          go_wp2_with (first | ((with_reducible refine gate_callee (f := 11) rfl ?_); refine goesL_ (some 27) rfl rfl Tryd.func11 (by kernel_rfl) rfl #[.slice Ao7 t247.length co7] rfl (by (try simp only [List.map_toArray, List.map_cons, List.map_nil]); first | done | rfl | (simp only [List.length_drop, List.length_take]; rfl)) ?_; (with_reducible refine (spec_SureCurve.calls kj4 _ _ t247 t252 _ ?side1 ?side2 A16.out).mono ?_); (case side1 => repeat (first | exact (Kd.R_reads' HO_3.out).2.2 | (with_reducible refine Kd.C_alloc ?_ _) | (with_reducible refine Kd.C_drewN ?_ _) | (with_reducible refine Kd.C_drew ?_))); (case side2 => exact (Kd.R_reads' HO_3.out).2.1); rintro e w17 ⟨rfl, hb⟩; refine ⟨_, rfl, ?_⟩; have n0_ := Aside0.mk (Kd.R_below (kr_ HO_3) hb); have n1_ := Aside0.mk (below_step (bl_ HB) hb); clear HO_3; clear HB; have HO_3 := n0_; have HB := n1_; clear n0_ n1_; (try clear hb); (try clear hb2); (try clear hk); (try clear hi)))
          go_ret
          exact ⟨by first | rfl | (simp [errW_none, errW_some] <;> rfl) | (simp [*, errW_none, errW_some] <;> rfl), by repeat (first | (with_reducible first | exact HB.out | apply below_alloc | apply pw_below_drewN | apply below_drew1) | exact HB.out)⟩
        · replace c15 := Bool.eq_false_iff.mpr c15
          subst c15
          have H1 : (if 0 ≤ (wrap64 ((t247.length : Int) - 1)) then (if (wrap64 ((t247.length : Int) - 1)) ≤ (t247.length : Int) then ((impl_SureCurve.f kj4 (t247.take ((wrap64 ((t247.length : Int) - 1)) : Int).toNat)).bind fun t257 => (if t257 = true then (if 1 ≤ (t247.length : Int) then ((impl_SureCurve.f kj4 (t247.drop 1)).bind fun t262 => (some t262)) else (none)) else (some false))) else (none)) else (none)) = some r := by rw [if_neg (show ¬ (false = true) by decide)] at H; exact H
          clear H
          have H := H1
          clear H1
          obtain ⟨ji18, hji18⟩ : ∃ j_ : Int, (wrap64 ((t247.length : Int) - 1)) = j_ := ⟨_, rfl⟩
          replace H : (if 0 ≤ (ji18) then (if (ji18) ≤ (t247.length : Int) then ((impl_SureCurve.f kj4 (t247.take ((ji18) : Int).toNat)).bind fun t257 => (if t257 = true then (if 1 ≤ (t247.length : Int) then ((impl_SureCurve.f kj4 (t247.drop 1)).bind fun t262 => (some t262)) else (none)) else (some false))) else (none)) else (none)) = some r := by first | (rw [hji18] at H; exact H) | (simp only [hji18] at H ⊢; exact H)
          have hji18w : (IntKind.i64.wrap ((t247.length : Int) - 1)) = ji18 := (i64_w _).trans hji18
          by_cases c19 : 0 ≤ (ji18)
          · rw [if_pos c19] at H
            have c19b0 := eq_true c19
            have c19b1 : decide (0 ≤ (ji18)) = true := decide_eq_true c19
            clear c19
            by_cases c20 : (ji18) ≤ (t247.length : Int)
            · rw [if_pos c20] at H
              have c20b0 := eq_true c20
              have c20b1 : decide ((ji18) ≤ (t247.length : Int)) = true := decide_eq_true c20
              clear c20
              obtain ⟨y253, hy253⟩ : ∃ y_ : List (S30), y_ = (t247.take ((ji18) : Int).toNat) := ⟨_, rfl⟩
              replace H : ((impl_SureCurve.f kj4 y253).bind fun t257 => (if t257 = true then (if 1 ≤ (t247.length : Int) then ((impl_SureCurve.f kj4 (t247.drop 1)).bind fun t262 => (some t262)) else (none)) else (some false))) = some r := by first | (rw [hy253]; with_reducible exact H) | (have H2_ := (Option.bind_some _ _).symm.trans H; rw [hy253]; with_reducible exact H2_) | (have H2_ := (Option.bind_some _ _).symm.trans H; with_reducible exact H2_) | with_reducible exact H | (rw [hy253]; exact H) | exact H
              have Ny253 := Aside0.mk hy253
              clear hy253
              replace H := Option.bind_eq_some_iff.mp H
              obtain ⟨t257, A210, H⟩ := H
              replace H : (if t257 = true then (if 1 ≤ (t247.length : Int) then ((impl_SureCurve.f kj4 (t247.drop 1)).bind fun t262 => (some t262)) else (none)) else (some false)) = some r := H
              have A21 := Aside0.mk A210
              clear A210
              by_cases c22 : t257 = true
              · subst c22
                have H1 : (if 1 ≤ (t247.length : Int) then ((impl_SureCurve.f kj4 (t247.drop 1)).bind fun t262 => (some t262)) else (none)) = some r := by rw [if_pos rfl] at H; exact H
                clear H
                have H := H1
                clear H1
                by_cases c23 : 1 ≤ (t247.length : Int)
                · rw [if_pos c23] at H
                  have c23b0 := eq_true c23
                  have c23b1 : decide (1 ≤ (t247.length : Int)) = true := decide_eq_true c23
                  clear c23
                  obtain ⟨y258, hy258⟩ : ∃ y_ : List (S30), y_ = (t247.drop 1) := ⟨_, rfl⟩
                  replace H : ((impl_SureCurve.f kj4 y258).bind fun t262 => (some t262)) = some r := by first | (rw [hy258]; with_reducible exact H) | (have H2_ := (Option.bind_some _ _).symm.trans H; rw [hy258]; with_reducible exact H2_) | (have H2_ := (Option.bind_some _ _).symm.trans H; with_reducible exact H2_) | with_reducible exact H | (rw [hy258]; exact H) | exact H
                  have Ny258 := Aside0.mk hy258
                  clear hy258
                  replace H := Option.bind_eq_some_iff.mp H
                  obtain ⟨t262, A240, H⟩ := H
                  replace H : (some t262) = some r := H
                  have A24 := Aside0.mk A240
                  clear A240
                  obtain rfl := Option.some.inj H
                  have q25 : ((ji18) : Int) ≤ ((t247.length : Int) : Int) := of_decide_eq_true (by first | (with_reducible assumption) | assumption)
                  obtain ⟨i025, hi025, _, hsz25, _⟩ := info_parts info30
                  have hroom25 : t247.length ≤ co7 := (Kd.R_reads' HO_3.out).2.1
                  have hC25 : Kd.C k30 _ Ao7 t247.length t247 := (Kd.R_reads' HO_3.out).2.2
                  have hcut25 := cut_to (P := Tryd.prog) 23 30 .i64 Tryd.underlying23 hi025 Ao7 t247.length co7 (ji18) (of_decide_eq_true (by first | (with_reducible assumption) | assumption)) q25 hroom25
                  have hr25 := Kd.C_take (m := ((ji18) : Int).toNat) hC25 (by omega)
                  have hy25 : y253.length = ((ji18) : Int).toNat := (by rw [Ny253.out, List.length_take]; omega)
                  rw [← Ny253.out] at hr25
                  rw [← hy25] at hcut25
                  have HR256 := Aside0.mk hr25
                  have HC256 := Aside0.mk (show y253.length ≤ co7 from by omega)
                  clear hr25 hC25 hroom25 hi025 hsz25
                  have KY25 := Aside0.mk hy25
                  clear hy25
                  have KL25 := Aside0.mk (show ((ji18) : Int).toNat ≤ t247.length from by omega)
                  replace q25 := eq_true q25
                  go_wp2_with (first | ((with_reducible refine gate_callee (f := 10) rfl ?_); refine goesL_ (some 34) rfl rfl Tryd.func10 (by kernel_rfl) rfl #[.slice Ao7 y253.length co7] rfl (by (try simp only [List.map_toArray, List.map_cons, List.map_nil]); first | done | rfl | (simp only [List.length_drop, List.length_take]; rfl)) ?_; (with_reducible refine (impl_SureCurve.calls kj4 _ _ y253 true _ ?side1 ?side2 ?side3 A21.out).mono ?_); (case side1 => repeat (first | exact (by repeat (first | (with_reducible exact HR256.out) | (with_reducible refine Kd.C_alloc ?_ _) | (with_reducible refine Kd.C_drewN ?_ _) | (with_reducible refine Kd.C_drew ?_) | exact HR256.out)) | (with_reducible refine Kd.C_alloc ?_ _) | (with_reducible refine Kd.C_drewN ?_ _) | (with_reducible refine Kd.C_drew ?_))); (case side2 => exact HC256.out); (case side3 => first | exact HTab.out | exact Tab.below HTab.out (bl_ HB)); rintro e w26 ⟨rfl, hb⟩; refine ⟨_, rfl, ?_⟩; have n0_ := Aside0.mk (Kd.R_below (kr_ HO_3) hb); have n1_ := Aside0.mk (Kd.C_below (by repeat (first | (with_reducible exact HR256.out) | (with_reducible refine Kd.C_alloc ?_ _) | (with_reducible refine Kd.C_drewN ?_ _) | (with_reducible refine Kd.C_drew ?_) | exact HR256.out)) hb); have n2_ := Aside0.mk (below_step (bl_ HB) hb); clear HO_3; clear HR256; clear HB; have HO_3 := n0_; have HR256 := n1_; have HB := n2_; clear n0_ n1_ n2_; (try clear hb); (try clear hb2); (try clear hk); (try clear hi); have q27 : (1 : Int) ≤ ((t247.length : Int) : Int) := of_decide_eq_true (by first | (with_reducible assumption) | assumption); obtain ⟨i027, hi027, _, hsz27, _⟩ := info_parts info30; have hroom27 : t247.length ≤ co7 := (Kd.R_reads' HO_3.out).2.1; have hC27 : Kd.C k30 _ Ao7 t247.length t247 := (Kd.R_reads' HO_3.out).2.2; have hcut27 := cut_from (P := Tryd.prog) 23 30 .i64 Tryd.underlying23 hi027 2 hsz27 Ao7 t247.length co7 1 (by omega) q27; have hr27 := Kd.C_drop (m := (1 : Int).toNat) (c := co7) hC27 (by omega) hroom27; obtain ⟨A27, hA27⟩ : ∃ A1, A1 = (if co7 = (1 : Int).toNat then Ao7 else (Ao7 : Option Addr).map (·.add ((1 : Int).toNat * 2))) := ⟨_, rfl⟩; obtain ⟨c27, hc27⟩ : ∃ c1, c1 = co7 - (1 : Int).toNat := ⟨_, rfl⟩; have hy27 : y258.length = t247.length - (1 : Int).toNat := (by rw [Ny258.out, List.length_drop] <;> omega); rw [show (t247).drop (1 : Int).toNat = y258 from Ny258.out.symm] at hr27; replace hr27 : Kd.C k30 _ A27 y258.length y258 := (by rw [hA27]; exact hr27); rw [← hy27, ← hA27, ← hc27] at hcut27; have HR261 := Aside0.mk hr27; have HC261 := Aside0.mk (show y258.length ≤ c27 from by rw [hy27, hc27]; exact Nat.sub_le_sub_right hroom27 _); clear hr27 hC27 hroom27 hi027 hsz27 hc27; have KY27 := Aside0.mk hy27; have KA27 := Aside0.mk hA27; clear hy27 hA27; have KL27 := Aside0.mk (show 1 ≤ t247.length from by omega); replace q27 := eq_true q27) | (go_at_call 10; (with_reducible refine (impl_SureCurve.calls kj4 _ _ y258 t262 _ ?side1 ?side2 ?side3 A24.out).mono ?_); (case side1 => repeat (first | exact (by repeat (first | (with_reducible exact HR261.out) | (with_reducible refine Kd.C_alloc ?_ _) | (with_reducible refine Kd.C_drewN ?_ _) | (with_reducible refine Kd.C_drew ?_) | exact HR261.out)) | (with_reducible refine Kd.C_alloc ?_ _) | (with_reducible refine Kd.C_drewN ?_ _) | (with_reducible refine Kd.C_drew ?_))); (case side2 => exact HC261.out); (case side3 => first | exact HTab.out | exact Tab.below HTab.out (bl_ HB)); rintro e w28 ⟨rfl, hb⟩; have n0_ := Aside0.mk (Kd.R_below (kr_ HO_3) hb); have n1_ := Aside0.mk (Kd.C_below (by repeat (first | (with_reducible exact HR256.out) | (with_reducible refine Kd.C_alloc ?_ _) | (with_reducible refine Kd.C_drewN ?_ _) | (with_reducible refine Kd.C_drew ?_) | exact HR256.out)) hb); have n2_ := Aside0.mk (Kd.C_below (by repeat (first | (with_reducible exact HR261.out) | (with_reducible refine Kd.C_alloc ?_ _) | (with_reducible refine Kd.C_drewN ?_ _) | (with_reducible refine Kd.C_drew ?_) | exact HR261.out)) hb); have n3_ := Aside0.mk (below_step (bl_ HB) hb); clear HO_3; clear HR256; clear HR261; clear HB; have HO_3 := n0_; have HR256 := n1_; have HR261 := n2_; have HB := n3_; clear n0_ n1_ n2_ n3_; (try clear hb); (try clear hb2); (try clear hk); (try clear hi)))
                  go_ret
                  exact ⟨by first | rfl | (simp [errW_none, errW_some] <;> rfl) | (simp only [← hji18]; first | rfl | (simp [errW_none, errW_some] <;> rfl)) | (simp [*, errW_none, errW_some] <;> rfl), by repeat (first | (with_reducible first | exact HB.out | apply below_alloc | apply pw_below_drewN | apply below_drew1) | exact HB.out)⟩
                · rw [if_neg c23] at H
                  exact absurd H (by simp)
              · replace c22 := Bool.eq_false_iff.mpr c22
                subst c22
                have H1 : (some false) = some r := by rw [if_neg (show ¬ (false = true) by decide)] at H; exact H
                clear H
                have H := H1
                clear H1
                obtain rfl := Option.some.inj H
                have q29 : ((ji18) : Int) ≤ ((t247.length : Int) : Int) := of_decide_eq_true (by first | (with_reducible assumption) | assumption)
                obtain ⟨i029, hi029, _, hsz29, _⟩ := info_parts info30
                have hroom29 : t247.length ≤ co7 := (Kd.R_reads' HO_3.out).2.1
                have hC29 : Kd.C k30 _ Ao7 t247.length t247 := (Kd.R_reads' HO_3.out).2.2
                have hcut29 := cut_to (P := Tryd.prog) 23 30 .i64 Tryd.underlying23 hi029 Ao7 t247.length co7 (ji18) (of_decide_eq_true (by first | (with_reducible assumption) | assumption)) q29 hroom29
                have hr29 := Kd.C_take (m := ((ji18) : Int).toNat) hC29 (by omega)
                have hy29 : y253.length = ((ji18) : Int).toNat := (by rw [Ny253.out, List.length_take]; omega)
                rw [← Ny253.out] at hr29
                rw [← hy29] at hcut29
                have HR256 := Aside0.mk hr29
                have HC256 := Aside0.mk (show y253.length ≤ co7 from by omega)
                clear hr29 hC29 hroom29 hi029 hsz29
                have KY29 := Aside0.mk hy29
                clear hy29
                have KL29 := Aside0.mk (show ((ji18) : Int).toNat ≤ t247.length from by omega)
                replace q29 := eq_true q29
                go_wp2_with (first | ((with_reducible refine gate_callee (f := 10) rfl ?_); refine goesL_ (some 34) rfl rfl Tryd.func10 (by kernel_rfl) rfl #[.slice Ao7 y253.length co7] rfl (by (try simp only [List.map_toArray, List.map_cons, List.map_nil]); first | done | rfl | (simp only [List.length_drop, List.length_take]; rfl)) ?_; (with_reducible refine (impl_SureCurve.calls kj4 _ _ y253 false _ ?side1 ?side2 ?side3 A21.out).mono ?_); (case side1 => repeat (first | exact (by repeat (first | (with_reducible exact HR256.out) | (with_reducible refine Kd.C_alloc ?_ _) | (with_reducible refine Kd.C_drewN ?_ _) | (with_reducible refine Kd.C_drew ?_) | exact HR256.out)) | (with_reducible refine Kd.C_alloc ?_ _) | (with_reducible refine Kd.C_drewN ?_ _) | (with_reducible refine Kd.C_drew ?_))); (case side2 => exact HC256.out); (case side3 => first | exact HTab.out | exact Tab.below HTab.out (bl_ HB)); rintro e w30 ⟨rfl, hb⟩; refine ⟨_, rfl, ?_⟩; have n0_ := Aside0.mk (Kd.R_below (kr_ HO_3) hb); have n1_ := Aside0.mk (Kd.C_below (by repeat (first | (with_reducible exact HR256.out) | (with_reducible refine Kd.C_alloc ?_ _) | (with_reducible refine Kd.C_drewN ?_ _) | (with_reducible refine Kd.C_drew ?_) | exact HR256.out)) hb); have n2_ := Aside0.mk (below_step (bl_ HB) hb); clear HO_3; clear HR256; clear HB; have HO_3 := n0_; have HR256 := n1_; have HB := n2_; clear n0_ n1_ n2_; (try clear hb); (try clear hb2); (try clear hk); (try clear hi)))
                go_ret
                exact ⟨by first | rfl | (simp [errW_none, errW_some] <;> rfl) | (simp only [← hji18]; first | rfl | (simp [errW_none, errW_some] <;> rfl)) | (simp [*, errW_none, errW_some] <;> rfl), by repeat (first | (with_reducible first | exact HB.out | apply below_alloc | apply pw_below_drewN | apply below_drew1) | exact HB.out)⟩
            · rw [if_neg c20] at H
              exact absurd H (by simp)
          · rw [if_neg c19] at H
            exact absurd H (by simp)

/-- THE ONE PURE STATEMENT of laws_FnSureCurveParts: yours. -/
def laws_FnSureCurveParts.Pure : Prop := ∀ (l0 : List Int), l0.length ≤ maxLen → l0.length * 1 ≤ 140737488351232 → (∀ x ∈ l0, (Lit.int .u8 x).wf = true) → ∃ k, laws_FnSureCurveParts.f k l0 = some true
theorem laws_FnSureCurveParts.walk (P : laws_FnSureCurveParts.Pure) (a0 : Option Addr) (len0 cap0 : Nat) (z0 : List Int) (w : World) (w0 : (a0 = none ∧ len0 = 0 ∧ cap0 = 0 ∧ z0 = []) ∨ ∃ x, a0 = some x ∧ len0 ≤ cap0 ∧ cap0 ≤ maxLen ∧ z0.length = cap0 ∧ (∀ i, i < z0.length → w.cell? (x.add i) = some (.int .u8 (z0.getD i 0))) ∧ ∀ n ∈ z0, (Lit.int .u8 n).wf = true) (y0 : len0 * 1 ≤ 140737488351232) (hT : Tab w) :
    Calls Tryd.prog 3 #[.slice a0 len0 cap0] w fun e w' => e = .returned (.bool true) ∧ Below w.heap.size w w' := by
  obtain ⟨l0, rfl, hr0, hm0, hw0, hc0⟩ := ReadsInt.ofRowC w0
  obtain ⟨k, h⟩ := P l0 hm0 y0 hw0
  refine (laws_FnSureCurveParts.calls k _ _ l0 true w (Kd.C_of_reads (d := (0 : Int)) (h1 := fun _ => rfl) hr0) hc0 hT h).mono ?_
  rintro e w' ⟨rfl, hd⟩
  exact ⟨rfl, hd⟩

end Go.Proofs.YtpijjacnbpnlfaaDoor.Q

/- Printed by a program (bprint.py) out of the translation: for each Go function a Lean function, and the proof that the call comes to its answers. Conditions: they stand in each theorem. -/
import Derived.Test.YtpijjacnbpnlfaaDoorQx0
import Derived.Test.YtpijjacnbpnlfaaDoorQx5
import Derived.Test.YtpijjacnbpnlfaaDoorQx6
import Derived.Test.YtpijjacnbpnlfaaDoorTab
namespace Go.Proofs.YtpijjacnbpnlfaaDoor.Q
open Go.RowKit Go.Proofs.YtpijjacnbpnlfaaDoorW.PrintWords Go.Proofs.YtpijjacnbpnlfaaDoorW.PrintLast Go.Proofs.YtpijjacnbpnlfaaDoorW.PrintMore
attribute [local go_sem] max2_int min2_int max_two min_two max_three min_three max_four min_four   -- for this text's walks alone
set_option linter.unusedVariables false
set_option linter.unusedSimpArgs false


section
variable {P : Program} {ops : Array Oper} {Q : Exit → Act → World → Prop} {md : Region.Mode} {S : World → Prop}
theorem up_ {S' : World → Prop} (hs : ∀ w, S' w → S w) : ∀ (fuel : Nat) (l : Array Bool) (a : Act) (w : World), S' w → wpAnyLast P md ops Q S' [] fuel l a w → wpAnyLast P md ops Q S [] fuel l a w
  | 0, _, _, _, _, h => h
  | fuel + 1, _, _, _, hw, h => ⟨h.1, fun i hi => wpOp_mono (fun a' w' h' => ⟨fun _ _ => hs _ (h'.1 (by simp) hw), up_ hs fuel _ _ _ (h'.1 (by simp) hw) h'.2⟩) (h.2 i hi)⟩
theorem joinS_ {σ : Type} {fuel : Nat} {l : Array Bool} {a : Act} {w : World} (S' : σ → World → Prop) (fuel' : Nat) (l' : Array Bool) (ns : σ → List (Tmp × Value)) (F : σ → World → Prop)
    (hcont : ∀ s w', F s w' → wpAnyLast P md ops Q (S' s) [] fuel' l' (putAll a (ns s)) w')
    (h : (∀ s w', F s w' → wpAnyLast P md ops Q (S' s) [] fuel' l' (putAll a (ns s)) w') → wpAnyLast P md ops Q S [] fuel l a w) : wpAnyLast P md ops Q S [] fuel l a w := h hcont
end
set_option linter.unusedSectionVars false
variable [Sent]

/-! ### impl_ParValue: function 13 -/
def impl_ParValue.j0 : Nat → List (S30) → Int → Int → Bool → Option (Int × Int × Bool)
  | 0, _, _, _, _ => none
  | k + 1, x0, x1, x2, x18 => if x18 = true then (some (0, 0, false)) else ((impl_sumsOf.f k x0).bind fun t261 => (if 0 ≤ x2 then (if x2 < (t261.length : Int) then (if 0 ≤ (wrap64 (x2 - 1)) then (if (wrap64 (x2 - 1)) < (x0.length : Int) then ((impl_floor.f (wrap64 ((wrap64 (100 * x1)) * ((rd_T30 t261 x2).f0))) 1000000).bind fun t268 => ((impl_ceil.f (wrap64 ((wrap64 (100 * x1)) * ((rd_T30 t261 x2).f1))) 1000000).bind fun t269 => (some (wrap64 (t268 + ((rd_T30 x0 (wrap64 (x2 - 1))).f0)), wrap64 (t269 + ((rd_T30 x0 (wrap64 (x2 - 1))).f1)), true)))) else (none)) else (none)) else (none)) else (none)))
def impl_ParValue.f (k : Nat) (l0 : List (S30)) (a1 : Int) (a2 : Int) : Option (Int × Int × Bool) := (impl_yearsIn.f k l0 a2).bind fun t259 => (if t259 = true then ((impl_rateValid.f a1).bind fun t260 => (impl_ParValue.j0 k l0 a1 a2 (!t260))) else (impl_ParValue.j0 k l0 a1 a2 true))
theorem impl_ParValue.mono_l : ∀ k, (∀ y0 y1 y2 y3, LeO (impl_ParValue.j0 k y0 y1 y2 y3) (impl_ParValue.j0 (k + 1) y0 y1 y2 y3))
  | 0 => fun _ _ _ _ r h => by simp [impl_ParValue.j0] at h
  | k + 1 => by
    have ih0 := impl_ParValue.mono_l k
    · intro y0 y1 y2 y3
      unfold impl_ParValue.j0
      repeat' first
      | (with_reducible exact ih0 _ _ _ _)
      | (with_reducible exact impl_sumsOf.mono _ _)
      | (with_reducible exact impl_yearsIn.mono _ _ _)
      | (with_reducible exact LeO.refl _)
      | (with_reducible exact LeO.none _)
      | (with_reducible refine LeO.ite ?_ ?_)
      | (with_reducible refine LeO.bind ?_ (fun _ => ?_))
      | exact ih0 _ _ _ _
      | exact impl_sumsOf.mono _ _
      | exact impl_yearsIn.mono _ _ _
      | exact LeO.none _
      | refine LeO.ite ?_ ?_
      | refine LeO.bind ?_ (fun _ => ?_)
theorem impl_ParValue.mono : ∀ a0 a1 a2 k, LeO (impl_ParValue.f k a0 a1 a2) (impl_ParValue.f (k + 1) a0 a1 a2) := by
  intro a0 a1 a2 k
  have ih0 := impl_ParValue.mono_l k
  unfold impl_ParValue.f
  repeat' first
      | (with_reducible exact ih0 _ _ _ _)
      | (with_reducible exact impl_sumsOf.mono _ _)
      | (with_reducible exact impl_yearsIn.mono _ _ _)
      | (with_reducible exact LeO.refl _)
      | (with_reducible exact LeO.none _)
      | (with_reducible refine LeO.ite ?_ ?_)
      | (with_reducible refine LeO.bind ?_ (fun _ => ?_))
      | exact ih0 _ _ _ _
      | exact impl_sumsOf.mono _ _
      | exact impl_yearsIn.mono _ _ _
      | exact LeO.none _
      | refine LeO.ite ?_ ?_
      | refine LeO.bind ?_ (fun _ => ?_)
def impl_ParValue.T3 : Bool × List (List Nat × List Nat) := (true, [([], []), ([0], [0]), ([], []), ([1, 2], [1, 2]), ([3], [3]), ([], []), ([], []), ([6], [6]), ([5, 7], [5, 7]), ([8], [8]), ([], []), ([], []), ([10, 4, 1, 0, 1, 2, 3, 4, 10, 11], [4, 10]), ([11, 9, 12, 0, 1, 2, 3, 4, 5, 6, 7, 8, 9, 10, 11, 12], [9, 11])])
def impl_ParValue.B3 : List Nat := [0, 1, 0, 7, 15, 0, 0, 64, 224, 480, 0, 0, 3103, 8191]
theorem impl_ParValue.tab3 : rtab .any (opsOf Tryd.f13 3) = impl_ParValue.T3 := by kernel_rfl
theorem impl_ParValue.bits3 : waitsOk impl_ParValue.T3.2 impl_ParValue.B3 = true := by kernel_rfl
def impl_ParValue.T4 : Bool × List (List Nat × List Nat) := (true, [([], []), ([0], [0]), ([], []), ([2], [2]), ([1, 3], [1, 3]), ([4], [4]), ([], []), ([6], [6]), ([5, 7], [5, 7]), ([], []), ([9], [9]), ([], []), ([11], [11]), ([10, 12], [10, 12]), ([13, 5], [13]), ([], []), ([15], [15]), ([14, 16], [14, 16]), ([8, 17], [8, 17]), ([18, 14, 0, 1, 2, 3, 4, 5, 6, 7, 8, 9, 10, 11, 12, 13, 14, 15, 16, 17, 18], [18]), ([19, 0, 1, 2, 3, 4, 5, 6, 7, 8, 9, 10, 11, 12, 13, 14, 15, 16, 17, 18, 19], [])])
def impl_ParValue.B4 : List Nat := [0, 1, 0, 4, 15, 31, 0, 64, 255, 0, 512, 0, 2048, 7680, 15935, 0, 32768, 130623, 262143, 524287, 1048575]
theorem impl_ParValue.tab4 : rtab .any (opsOf Tryd.f13 4) = impl_ParValue.T4 := by kernel_rfl
theorem impl_ParValue.bits4 : waitsOk impl_ParValue.T4.2 impl_ParValue.B4 = true := by kernel_rfl
set_option maxHeartbeats 8000000 in
set_option maxRecDepth 100000 in
theorem impl_ParValue.calls (k : Nat) (A0 : Option Addr) (c0 : Nat) (l0 : List (S30)) (a1 : Int) (a2 : Int) (r1 : Int) (r2 : Int) (r3 : Bool) (w : World) (hr0 : Kd.C k30 w A0 l0.length l0) (hc0 : l0.length ≤ c0) (hT : Tab w) (h : impl_ParValue.f k l0 a1 a2 = some (r1, r2, r3)) :
    Calls Tryd.prog 13 #[.slice A0 l0.length c0, .int .i64 a1, .int .i64 a2] w fun e w' => e = .returned (.tuple #[.agg #[.int .i64 r1, .int .i64 r2], .bool r3]) ∧ Below w.heap.size w w' := by
  have hu30 := Tryd.underlying30
  have HTab := Aside0.mk hT
  clear hT
  have HR0 := Aside0.mk hr0
  have HC0 := Aside0.mk hc0
  clear hr0 hc0
  have HB := Aside0.mk (Below.refl w.heap.size w)
  have H : ((impl_yearsIn.f k l0 a2).bind fun t259 => (if t259 = true then ((impl_rateValid.f a1).bind fun t260 => (impl_ParValue.j0 k l0 a1 a2 (!t260))) else (impl_ParValue.j0 k l0 a1 a2 true))) = some (r1, r2, r3) := h
  clear h
  have HC4 := Aside0.mk H
  clear H
  go_enter Tryd.func13, Tryd.ntmps13
  go_upto_region 1 with (first | ((with_reducible refine gate_dst (N := 6) rfl ?_); refine box_event ?hg (N := 6) ?hd (cs := #[.int .i64 0, .int .i64 0]) (t := 30) ?hr ?_; (case hd => rfl); (case hg => rfl); (case hr => first | (go_simp; done) | (go_simp; rfl)); intro gb258 hg w5 hbox hb; have n0_ := Aside0.mk (below_step (bl_ HB) hb); have n1_ := Aside0.mk (hbox); have n2_ := Aside0.mk ((by rw [hg]; exact (below_size (bl_ HB)) : w.heap.size ≤ gb258)); have n3_ := Aside0.mk ((by rw [hg]; exact (below_size (bl_ HB)) : w.heap.size ≤ gb258)); clear HB; have HB := n0_; have BK258 := n1_; have GW258 := n2_; have GE258 := n3_; clear n0_ n1_ n2_ n3_; clear hb hbox hg))
  (try simp only [Act.put, sa_, sb_, sc_])
  go_cut [18] (fun v18 wc => ∃ (kq : Nat) (x18_3 : Bool), v18 = .bool x18_3 ∧ Aside0 (impl_ParValue.j0 kq l0 a1 a2 x18_3 = some (r1, r2, r3)) ∧ Aside0 (kq ≤ k) ∧ Aside0 (wc.heap[gb258]? = some (.cells #[.int .i64 0, .int .i64 0] 30 (0, 0))) ∧ Aside0 (Below w.heap.size w wc))
  case first =>
    have H := HC4.out
    clear HC4
    replace H := Option.bind_eq_some_iff.mp H
    obtain ⟨t259, A60, H⟩ := H
    replace H : (if t259 = true then ((impl_rateValid.f a1).bind fun t260 => (impl_ParValue.j0 k l0 a1 a2 (!t260))) else (impl_ParValue.j0 k l0 a1 a2 true)) = some (r1, r2, r3) := H
    have A6 := Aside0.mk A60
    clear A60
    by_cases c7 : t259 = true
    · subst c7
      have H1 : ((impl_rateValid.f a1).bind fun t260 => (impl_ParValue.j0 k l0 a1 a2 (!t260))) = some (r1, r2, r3) := by rw [if_pos rfl] at H; exact H
      clear H
      have H := H1
      clear H1
      replace H := Option.bind_eq_some_iff.mp H
      obtain ⟨t260, A80, H⟩ := H
      replace H : (impl_ParValue.j0 k l0 a1 a2 (!t260)) = some (r1, r2, r3) := H
      have A8 := Aside0.mk A80
      clear A80
      have H' := Aside0.mk H
      clear H
      go_wp2_with (first | ((with_reducible refine gate_callee (f := 28) rfl ?_); refine goesL_ (some 12) rfl rfl Tryd.func28 (by kernel_rfl) rfl #[.slice A0 l0.length c0, .int .i64 a2] rfl (by (try simp only [List.map_toArray, List.map_cons, List.map_nil]); first | done | rfl | (simp only [List.length_drop, List.length_take]; rfl)) ?_; (with_reducible refine (impl_yearsIn.calls k _ _ l0 a2 true _ ?side1 ?side2 ?side3 A6.out).mono ?_); (case side1 => repeat (first | exact (Kd.C_below HR0.out HB.out) | (with_reducible refine Kd.C_alloc ?_ _) | (with_reducible refine Kd.C_drewN ?_ _) | (with_reducible refine Kd.C_drew ?_))); (case side2 => exact HC0.out); (case side3 => first | exact HTab.out | exact Tab.below HTab.out (bl_ HB)); rintro e w9 ⟨rfl, hb⟩; refine ⟨_, rfl, ?_⟩; have n0_ := Aside0.mk (blk_below (g := gb258) (o := .cells #[.int .i64 0, .int .i64 0] 30 (0, 0)) (bk_ BK258) hb); have n1_ := Aside0.mk (below_step (bl_ HB) hb); clear BK258; clear HB; have BK258 := n0_; have HB := n1_; clear n0_ n1_; (try clear hb); (try clear hb2); (try clear hk); (try clear hi)) | (go_at_call 29; (with_reducible refine (impl_rateValid.calls a1 t260 _ A8.out).mono ?_); rintro e w' ⟨rfl, ⟨nd, rfl⟩⟩))
      go_meet
      case rel => exact ⟨_, (!t260), (by first | rfl | (simp; done) | (simp [*]; done)), H', ⟨by first | omega | exact Nat.le_refl _⟩, ⟨by (with_reducible repeat (first | refine blk_drewN ?_ _ | refine blk_drew ?_ | refine blk_alloc ?_ _)); exact BK258.out⟩, ⟨by repeat (first | (with_reducible first | exact HB.out | apply below_alloc | apply pw_below_drewN | apply below_drew1 | refine below_set ?_ GE258.out) | exact HB.out)⟩⟩
    · replace c7 := Bool.eq_false_iff.mpr c7
      subst c7
      have H1 : (impl_ParValue.j0 k l0 a1 a2 true) = some (r1, r2, r3) := by rw [if_neg (show ¬ (false = true) by decide)] at H; exact H
      clear H
      have H := H1
      clear H1
      have H' := Aside0.mk H
      clear H
      go_wp2_with (first | ((with_reducible refine gate_callee (f := 28) rfl ?_); refine goesL_ (some 12) rfl rfl Tryd.func28 (by kernel_rfl) rfl #[.slice A0 l0.length c0, .int .i64 a2] rfl (by (try simp only [List.map_toArray, List.map_cons, List.map_nil]); first | done | rfl | (simp only [List.length_drop, List.length_take]; rfl)) ?_; (with_reducible refine (impl_yearsIn.calls k _ _ l0 a2 false _ ?side1 ?side2 ?side3 A6.out).mono ?_); (case side1 => repeat (first | exact (Kd.C_below HR0.out HB.out) | (with_reducible refine Kd.C_alloc ?_ _) | (with_reducible refine Kd.C_drewN ?_ _) | (with_reducible refine Kd.C_drew ?_))); (case side2 => exact HC0.out); (case side3 => first | exact HTab.out | exact Tab.below HTab.out (bl_ HB)); rintro e w10 ⟨rfl, hb⟩; refine ⟨_, rfl, ?_⟩; have n0_ := Aside0.mk (blk_below (g := gb258) (o := .cells #[.int .i64 0, .int .i64 0] 30 (0, 0)) (bk_ BK258) hb); have n1_ := Aside0.mk (below_step (bl_ HB) hb); clear BK258; clear HB; have BK258 := n0_; have HB := n1_; clear n0_ n1_; (try clear hb); (try clear hb2); (try clear hk); (try clear hi)))
      go_meet
      case rel => exact ⟨_, (true), (by first | rfl | (simp; done) | (simp [*]; done)), H', ⟨by first | omega | exact Nat.le_refl _⟩, ⟨by (with_reducible repeat (first | refine blk_drewN ?_ _ | refine blk_drew ?_ | refine blk_alloc ?_ _)); exact BK258.out⟩, ⟨by repeat (first | (with_reducible first | exact HB.out | apply below_alloc | apply pw_below_drewN | apply below_drew1 | refine below_set ?_ GE258.out) | exact HB.out)⟩⟩
  case rest =>
    clear HC4
    try clear c1
    try clear c2
    try clear p2
    try clear c7
    obtain ⟨kq, x18_3, rfl, HA, HJ3, BK258, HB⟩ := hcut
    cases kq with
    | zero => exact absurd HA.out (by simp [impl_ParValue.j0])
    | succ kj3 =>
      have H := HA.out
      clear HA
      simp only [impl_ParValue.j0] at H
      by_cases c11 : x18_3 = true
      · subst c11
        have H1 : (some (0, 0, false)) = some (r1, r2, r3) := by rw [if_pos rfl] at H; exact H
        clear H
        have H := H1
        clear H1
        simp only [Option.some.injEq, Prod.mk.injEq] at H
        obtain ⟨rfl, rfl, rfl⟩ := H
        have hcz12_0 : wc.cell? ⟨gb258, 0, none⟩ = some (.int .i64 0) := (blk_cell BK258.out 0).trans rfl
        have hcz12_1 : wc.cell? ⟨gb258, 1, none⟩ = some (.int .i64 0) := (blk_cell BK258.out 1).trans rfl
        have hfz12_0 := blk_frozen BK258.out 0
        have hfz12_1 := blk_frozen BK258.out 1
        go_wp2
        refine bodyPost_ret (results_ct rfl _ _ gb258 30 #[.int .i64 0, .int .i64 0] (0, 0) _ rfl (by (with_reducible repeat (first | refine blk_drewN ?_ _ | refine blk_drew ?_ | refine blk_alloc ?_ _)); refine blk_put (cs := #[.int .i64 0, .int .i64 0]) ?_ 1 _ rfl; (with_reducible repeat (first | refine blk_drewN ?_ _ | refine blk_drew ?_ | refine blk_alloc ?_ _)); refine blk_put (cs := #[.int .i64 0, .int .i64 0]) ?_ 0 _ rfl; (with_reducible repeat (first | refine blk_drewN ?_ _ | refine blk_drew ?_ | refine blk_alloc ?_ _)); exact BK258.out) Tryd.underlying30 rfl (by kernel_rfl)) rfl ?_
        exact ⟨by first | rfl | (simp [errW_none, errW_some] <;> rfl) | (simp [*, errW_none, errW_some] <;> rfl), by repeat (first | (with_reducible first | exact HB.out | apply below_alloc | apply pw_below_drewN | apply below_drew1 | refine below_set ?_ GE258.out) | exact HB.out)⟩
      · replace c11 := Bool.eq_false_iff.mpr c11
        subst c11
        have H1 : ((impl_sumsOf.f kj3 l0).bind fun t261 => (if 0 ≤ a2 then (if a2 < (t261.length : Int) then (if 0 ≤ (wrap64 (a2 - 1)) then (if (wrap64 (a2 - 1)) < (l0.length : Int) then ((impl_floor.f (wrap64 ((wrap64 (100 * a1)) * ((rd_T30 t261 a2).f0))) 1000000).bind fun t268 => ((impl_ceil.f (wrap64 ((wrap64 (100 * a1)) * ((rd_T30 t261 a2).f1))) 1000000).bind fun t269 => (some (wrap64 (t268 + ((rd_T30 l0 (wrap64 (a2 - 1))).f0)), wrap64 (t269 + ((rd_T30 l0 (wrap64 (a2 - 1))).f1)), true)))) else (none)) else (none)) else (none)) else (none))) = some (r1, r2, r3) := by rw [if_neg (show ¬ (false = true) by decide)] at H; exact H
        clear H
        have H := H1
        clear H1
        replace H := Option.bind_eq_some_iff.mp H
        obtain ⟨t261, A130, H⟩ := H
        replace H : (if 0 ≤ a2 then (if a2 < (t261.length : Int) then (if 0 ≤ (wrap64 (a2 - 1)) then (if (wrap64 (a2 - 1)) < (l0.length : Int) then ((impl_floor.f (wrap64 ((wrap64 (100 * a1)) * ((rd_T30 t261 a2).f0))) 1000000).bind fun t268 => ((impl_ceil.f (wrap64 ((wrap64 (100 * a1)) * ((rd_T30 t261 a2).f1))) 1000000).bind fun t269 => (some (wrap64 (t268 + ((rd_T30 l0 (wrap64 (a2 - 1))).f0)), wrap64 (t269 + ((rd_T30 l0 (wrap64 (a2 - 1))).f1)), true)))) else (none)) else (none)) else (none)) else (none)) = some (r1, r2, r3) := H
        have A13 := Aside0.mk A130
        clear A130
        by_cases c14 : 0 ≤ a2
        · rw [if_pos c14] at H
          have c14b0 : decide (0 ≤ a2) = true := decide_eq_true c14
          clear c14
          by_cases c15 : a2 < (t261.length : Int)
          · rw [if_pos c15] at H
            have c15b0 : decide (a2 < (t261.length : Int)) = true := decide_eq_true c15
            clear c15
            obtain ⟨ji16, hji16⟩ : ∃ j_ : Int, (wrap64 (a2 - 1)) = j_ := ⟨_, rfl⟩
            replace H : (if 0 ≤ (ji16) then (if (ji16) < (l0.length : Int) then ((impl_floor.f (wrap64 ((wrap64 (100 * a1)) * ((rd_T30 t261 a2).f0))) 1000000).bind fun t268 => ((impl_ceil.f (wrap64 ((wrap64 (100 * a1)) * ((rd_T30 t261 a2).f1))) 1000000).bind fun t269 => (some (wrap64 (t268 + ((rd_T30 l0 (ji16)).f0)), wrap64 (t269 + ((rd_T30 l0 (ji16)).f1)), true)))) else (none)) else (none)) = some (r1, r2, r3) := by first | (rw [hji16] at H; exact H) | (simp only [hji16] at H ⊢; exact H)
            (try rw [hji16] at A13)
            have hji16w : (IntKind.i64.wrap (a2 - 1)) = ji16 := (i64_w _).trans hji16
            by_cases c17 : 0 ≤ (ji16)
            · rw [if_pos c17] at H
              have c17b0 : decide (0 ≤ (ji16)) = true := decide_eq_true c17
              clear c17
              by_cases c18 : (ji16) < (l0.length : Int)
              · rw [if_pos c18] at H
                have c18b0 : decide ((ji16) < (l0.length : Int)) = true := decide_eq_true c18
                clear c18
                replace H := Option.bind_eq_some_iff.mp H
                obtain ⟨t268, A190, H⟩ := H
                replace H : ((impl_ceil.f (wrap64 ((wrap64 (100 * a1)) * ((rd_T30 t261 a2).f1))) 1000000).bind fun t269 => (some (wrap64 (t268 + ((rd_T30 l0 (ji16)).f0)), wrap64 (t269 + ((rd_T30 l0 (ji16)).f1)), true))) = some (r1, r2, r3) := H
                have A19 := Aside0.mk A190
                clear A190
                replace H := Option.bind_eq_some_iff.mp H
                obtain ⟨t269, A200, H⟩ := H
                replace H : (some (wrap64 (t268 + ((rd_T30 l0 (ji16)).f0)), wrap64 (t269 + ((rd_T30 l0 (ji16)).f1)), true)) = some (r1, r2, r3) := H
                have A20 := Aside0.mk A200
                clear A200
                simp only [Option.some.injEq, Prod.mk.injEq] at H
                obtain ⟨rfl, rfl, rfl⟩ := H
                try go_wp2
                have n0_ := Aside0.mk (blk_drew BK258.out)
                have n1_ := Aside0.mk (below_drew1 HB.out)
                clear BK258
                clear HB
                have BK258 := n0_
                have HB := n1_
                clear n0_ n1_
                have p265 : 0 ≤ ((ji16) : Int) := of_decide_eq_true (by first | (with_reducible assumption) | assumption)
                have q265 : (ji16) < (l0.length : Int) := of_decide_eq_true (by first | (with_reducible assumption) | assumption)
                obtain ⟨ad265, e265, hx265_0, hx265_1⟩ := at_T30 HR0.out (ji16) p265 q265
                have hw265_1 := hx265_1
                have hw265_0 := hx265_0
                cases e265
                replace hx265_0 := (HB.out.cell (World.block_lt_of_cell? w _ hx265_0)).trans hx265_0
                replace hx265_1 := (HB.out.cell (World.block_lt_of_cell? w _ hx265_1)).trans hx265_1
                replace p265 := eq_true p265
                replace q265 := eq_true q265
                have p264 : 0 ≤ (a2 : Int) := of_decide_eq_true (by first | (with_reducible assumption) | assumption)
                have q264 : a2 < (t261.length : Int) := of_decide_eq_true (by first | (with_reducible assumption) | assumption)
                replace p264 := eq_true p264
                replace q264 := eq_true q264
                refine start_ (n := 14) (S := fun w' => w'.cell? (ad265.add (((ji16)).toNat * 2)) = some (.int .i64 ((rd_T30 l0 (ji16)).f0)) ∧ w'.cell? ⟨(ad265.add (((ji16)).toNat * 2)).block, (ad265.add (((ji16)).toNat * 2)).off + 1, none⟩ = some (.int .i64 ((rd_T30 l0 (ji16)).f1))) (ds := []) #[false, false, false, false, false, false, false, false, false, false, false, false, false, false] (by kernel_rfl) rfl rfl ⟨((HB.out.cell (World.block_lt_of_cell? w _ hw265_0)).trans hw265_0), ((HB.out.cell (World.block_lt_of_cell? w _ hw265_1)).trans hw265_1)⟩ (fun hHeld => ?_); refine with_tabW impl_ParValue.tab3 impl_ParValue.bits3 (fun HT_ HW_ => ?_)
                generalize wc.drew = w21 at BK258 HB hx265_0 hx265_1 hHeld ⊢
                refine pure_ (i := 0) (N := some 20) (v := ?_) (a' := ?_) #[true, false, false, false, false, false, false, false, false, false, false, false, false, false] rfl rfl (any_of HT_.out (by kernel_rfl)) (fun _ _ _ h => h) (Or.inl ⟨by rfl, ?_⟩) ?_ ?_
                rotate_left
                · intro w'
                  go_simp
                  with_reducible rfl
                rotate_left
                · simp only [Act.put, sa_, sb_, sc_, i64_w, i32_w]
                  rfl
                refine pure_ (i := 2) (N := some 22) (v := ?_) (a' := ?_) #[true, false, true, false, false, false, false, false, false, false, false, false, false, false] rfl rfl (any_of HT_.out (by kernel_rfl)) (fun _ _ _ h => h) (Or.inl ⟨by rfl, ?_⟩) ?_ ?_
                rotate_left
                · intro w'
                  go_simp
                  with_reducible rfl
                rotate_left
                · simp only [Act.put, sa_, sb_, sc_, i64_w, i32_w]
                  rfl
                refine pure_ (i := 5) (N := some 25) (v := ?_) (a' := ?_) #[true, false, true, false, false, true, false, false, false, false, false, false, false, false] rfl rfl (any_of HT_.out (by kernel_rfl)) (fun _ _ _ h => h) (Or.inl ⟨by rfl, ?_⟩) ?_ ?_
                rotate_left
                · intro w'
                  go_simp
                  with_reducible rfl
                rotate_left
                · simp only [Act.put, sa_, sb_, sc_, i64_w, i32_w]
                  rfl
                refine pure_ (i := 6) (N := some 26) (v := ?_) (a' := ?_) #[true, false, true, false, false, true, true, false, false, false, false, false, false, false] rfl rfl (any_of HT_.out (by kernel_rfl)) (fun _ _ _ h => h) (Or.inl ⟨by rfl, ?_⟩) ?_ ?_
                rotate_left
                · intro w'
                  go_simp
                  with_reducible rfl
                rotate_left
                · simp only [Act.put, sa_, sb_, sc_, i64_w, i32_w]
                  rfl
                refine pure_ (i := 7) (N := some 27) (v := ?_) (a' := ?_) #[true, false, true, false, false, true, true, true, false, false, false, false, false, false] rfl rfl (any_of HT_.out (by kernel_rfl)) (fun _ _ _ h => h) (Or.inl ⟨by rfl, ?_⟩) ?_ ?_
                rotate_left
                · intro w'
                  go_simp
                  with_reducible rfl
                rotate_left
                · simp only [Act.put, sa_, sb_, sc_, i64_w, i32_w]
                  rfl
                refine pure_ (i := 8) (N := some 28) (v := ?_) (a' := ?_) #[true, false, true, false, false, true, true, true, true, false, false, false, false, false] rfl rfl (any_of HT_.out (by kernel_rfl)) (fun _ _ _ h => h) (Or.inl ⟨by rfl, ?_⟩) ?_ ?_
                rotate_left
                · intro w'
                  go_simp
                  with_reducible rfl
                rotate_left
                · simp only [Act.put, sa_, sb_, sc_, i64_w, i32_w]
                  rfl
                refine take_ (i := 9) (N := some 29) (v := ?_) (a' := ?_) #[true, false, true, false, false, true, true, true, true, true, false, false, false, false] rfl rfl (take_ofW HT_.out HW_.out (by kernel_rfl)) (fun _ _ _ h => h) (Or.inl ⟨by rfl, ?_⟩) hHeld ?_ ?_
                rotate_left
                · rintro w' ⟨s0, s1⟩
                  go_simp
                  with_reducible rfl
                rotate_left
                · simp only [Act.put, sa_, sb_, sc_, i64_w, i32_w]
                  rfl
                refine joinS_ (σ := (Addr × Nat) × Nat × Nat) (fun s_ w' => w'.cell? (ad265.add (((ji16)).toNat * 2)) = some (.int .i64 ((rd_T30 l0 (ji16)).f0)) ∧ w'.cell? ⟨(ad265.add (((ji16)).toNat * 2)).block, (ad265.add (((ji16)).toNat * 2)).off + 1, none⟩ = some (.int .i64 ((rd_T30 l0 (ji16)).f1)) ∧ w'.cell? (s_.1.1.add ((a2).toNat * 2)) = some (.int .i64 ((rd_T30 t261 a2).f0)) ∧ w'.cell? ⟨(s_.1.1.add ((a2).toNat * 2)).block, (s_.1.1.add ((a2).toNat * 2)).off + 1, none⟩ = some (.int .i64 ((rd_T30 t261 a2).f1))) 2 #[true, true, true, true, true, true, true, true, true, true, true, true, false, false] (fun s_ => [(21, (.slice (some s_.1.1) t261.length s_.1.2)), (8, .pointer (some ⟨s_.2.1, 0, none⟩)), (9, .pointer (some ⟨s_.2.2, 0, none⟩)), (23, .pointer (some (s_.1.1.add ((a2).toNat * 2)))), (24, .agg #[.int .i64 ((rd_T30 t261 a2).f0), .int .i64 ((rd_T30 t261 a2).f1)])]) (fun s_ w' => (w'.cell? (ad265.add (((ji16)).toNat * 2)) = some (.int .i64 ((rd_T30 l0 (ji16)).f0)) ∧ w'.cell? ⟨(ad265.add (((ji16)).toNat * 2)).block, (ad265.add (((ji16)).toNat * 2)).off + 1, none⟩ = some (.int .i64 ((rd_T30 l0 (ji16)).f1)) ∧ w'.cell? (s_.1.1.add ((a2).toNat * 2)) = some (.int .i64 ((rd_T30 t261 a2).f0)) ∧ w'.cell? ⟨(s_.1.1.add ((a2).toNat * 2)).block, (s_.1.1.add ((a2).toNat * 2)).off + 1, none⟩ = some (.int .i64 ((rd_T30 t261 a2).f1))) ∧ (Kd.R k30 30 w' w.heap.size (fun k_ => k_ ≠ gb258 ∧ k_ ≠ s_.2.1 ∧ k_ ≠ s_.2.2) (.slice (some s_.1.1) t261.length s_.1.2) t261) ∧ (w'.heap[gb258]? = some (.cells #[.int .i64 0, .int .i64 0] 30 (0, 0))) ∧ (w'.heap[s_.2.1]? = some (.cells #[.int .i64 0, .int .i64 0] 30 (0, 0))) ∧ (w'.heap[s_.2.2]? = some (.cells #[.int .i64 0, .int .i64 0] 30 (0, 0))) ∧ (w.heap.size ≤ s_.2.1) ∧ (w.heap.size ≤ s_.2.1) ∧ (gb258 ≠ s_.2.1) ∧ (s_.2.1 ≠ gb258) ∧ (s_.2.2 ≠ s_.2.1) ∧ (s_.2.1 ≠ s_.2.2) ∧ (w.heap.size ≤ s_.2.2) ∧ (w.heap.size ≤ s_.2.2) ∧ (gb258 ≠ s_.2.2) ∧ (s_.2.2 ≠ gb258) ∧ (Below w.heap.size w w')) ?_ ?_
                rotate_left
                · intro hJ1_10_11
                  refine joinS_ (σ := (Addr × Nat) × Nat) (fun s_ w' => w'.cell? (ad265.add (((ji16)).toNat * 2)) = some (.int .i64 ((rd_T30 l0 (ji16)).f0)) ∧ w'.cell? ⟨(ad265.add (((ji16)).toNat * 2)).block, (ad265.add (((ji16)).toNat * 2)).off + 1, none⟩ = some (.int .i64 ((rd_T30 l0 (ji16)).f1)) ∧ w'.cell? (s_.1.1.add ((a2).toNat * 2)) = some (.int .i64 ((rd_T30 t261 a2).f0)) ∧ w'.cell? ⟨(s_.1.1.add ((a2).toNat * 2)).block, (s_.1.1.add ((a2).toNat * 2)).off + 1, none⟩ = some (.int .i64 ((rd_T30 t261 a2).f1))) 3 #[true, true, true, true, true, true, true, true, true, true, true, false, false, false] (fun s_ => [(21, (.slice (some s_.1.1) t261.length s_.1.2)), (8, .pointer (some ⟨s_.2, 0, none⟩)), (23, .pointer (some (s_.1.1.add ((a2).toNat * 2)))), (24, .agg #[.int .i64 ((rd_T30 t261 a2).f0), .int .i64 ((rd_T30 t261 a2).f1)])]) (fun s_ w' => (w'.cell? (ad265.add (((ji16)).toNat * 2)) = some (.int .i64 ((rd_T30 l0 (ji16)).f0)) ∧ w'.cell? ⟨(ad265.add (((ji16)).toNat * 2)).block, (ad265.add (((ji16)).toNat * 2)).off + 1, none⟩ = some (.int .i64 ((rd_T30 l0 (ji16)).f1)) ∧ w'.cell? (s_.1.1.add ((a2).toNat * 2)) = some (.int .i64 ((rd_T30 t261 a2).f0)) ∧ w'.cell? ⟨(s_.1.1.add ((a2).toNat * 2)).block, (s_.1.1.add ((a2).toNat * 2)).off + 1, none⟩ = some (.int .i64 ((rd_T30 t261 a2).f1))) ∧ (Kd.R k30 30 w' w.heap.size (fun k_ => k_ ≠ gb258 ∧ k_ ≠ s_.2) (.slice (some s_.1.1) t261.length s_.1.2) t261) ∧ (w'.heap[gb258]? = some (.cells #[.int .i64 0, .int .i64 0] 30 (0, 0))) ∧ (w'.heap[s_.2]? = some (.cells #[.int .i64 0, .int .i64 0] 30 (0, 0))) ∧ (w.heap.size ≤ s_.2) ∧ (w.heap.size ≤ s_.2) ∧ (gb258 ≠ s_.2) ∧ (s_.2 ≠ gb258) ∧ (Below w.heap.size w w')) ?_ ?_
                  rotate_left
                  · intro hJ1_10
                    refine joinS_ (σ := (Addr × Nat) × Nat) (fun s_ w' => w'.cell? (ad265.add (((ji16)).toNat * 2)) = some (.int .i64 ((rd_T30 l0 (ji16)).f0)) ∧ w'.cell? ⟨(ad265.add (((ji16)).toNat * 2)).block, (ad265.add (((ji16)).toNat * 2)).off + 1, none⟩ = some (.int .i64 ((rd_T30 l0 (ji16)).f1)) ∧ w'.cell? (s_.1.1.add ((a2).toNat * 2)) = some (.int .i64 ((rd_T30 t261 a2).f0)) ∧ w'.cell? ⟨(s_.1.1.add ((a2).toNat * 2)).block, (s_.1.1.add ((a2).toNat * 2)).off + 1, none⟩ = some (.int .i64 ((rd_T30 t261 a2).f1))) 3 #[true, true, true, true, true, true, true, true, true, true, false, true, false, false] (fun s_ => [(21, (.slice (some s_.1.1) t261.length s_.1.2)), (9, .pointer (some ⟨s_.2, 0, none⟩)), (23, .pointer (some (s_.1.1.add ((a2).toNat * 2)))), (24, .agg #[.int .i64 ((rd_T30 t261 a2).f0), .int .i64 ((rd_T30 t261 a2).f1)])]) (fun s_ w' => (w'.cell? (ad265.add (((ji16)).toNat * 2)) = some (.int .i64 ((rd_T30 l0 (ji16)).f0)) ∧ w'.cell? ⟨(ad265.add (((ji16)).toNat * 2)).block, (ad265.add (((ji16)).toNat * 2)).off + 1, none⟩ = some (.int .i64 ((rd_T30 l0 (ji16)).f1)) ∧ w'.cell? (s_.1.1.add ((a2).toNat * 2)) = some (.int .i64 ((rd_T30 t261 a2).f0)) ∧ w'.cell? ⟨(s_.1.1.add ((a2).toNat * 2)).block, (s_.1.1.add ((a2).toNat * 2)).off + 1, none⟩ = some (.int .i64 ((rd_T30 t261 a2).f1))) ∧ (Kd.R k30 30 w' w.heap.size (fun k_ => k_ ≠ gb258 ∧ k_ ≠ s_.2) (.slice (some s_.1.1) t261.length s_.1.2) t261) ∧ (w'.heap[gb258]? = some (.cells #[.int .i64 0, .int .i64 0] 30 (0, 0))) ∧ (w'.heap[s_.2]? = some (.cells #[.int .i64 0, .int .i64 0] 30 (0, 0))) ∧ (w.heap.size ≤ s_.2) ∧ (w.heap.size ≤ s_.2) ∧ (gb258 ≠ s_.2) ∧ (s_.2 ≠ gb258) ∧ (Below w.heap.size w w')) ?_ ?_
                    rotate_left
                    · intro hJ1_11
                      refine join_ (σ := Nat × Nat) 5 #[true, false, true, false, false, true, true, true, true, true, true, true, false, false] (fun s_ => [(8, .pointer (some ⟨s_.1, 0, none⟩)), (9, .pointer (some ⟨s_.2, 0, none⟩))]) (fun s_ w' => (w'.cell? (ad265.add (((ji16)).toNat * 2)) = some (.int .i64 ((rd_T30 l0 (ji16)).f0)) ∧ w'.cell? ⟨(ad265.add (((ji16)).toNat * 2)).block, (ad265.add (((ji16)).toNat * 2)).off + 1, none⟩ = some (.int .i64 ((rd_T30 l0 (ji16)).f1))) ∧ (w'.heap[gb258]? = some (.cells #[.int .i64 0, .int .i64 0] 30 (0, 0))) ∧ (w'.heap[s_.1]? = some (.cells #[.int .i64 0, .int .i64 0] 30 (0, 0))) ∧ (w'.heap[s_.2]? = some (.cells #[.int .i64 0, .int .i64 0] 30 (0, 0))) ∧ (w.heap.size ≤ s_.1) ∧ (w.heap.size ≤ s_.1) ∧ (gb258 ≠ s_.1) ∧ (s_.1 ≠ gb258) ∧ (s_.2 ≠ s_.1) ∧ (s_.1 ≠ s_.2) ∧ (w.heap.size ≤ s_.2) ∧ (w.heap.size ≤ s_.2) ∧ (gb258 ≠ s_.2) ∧ (s_.2 ≠ gb258) ∧ (Below w.heap.size w w')) ?_ ?_
                      rotate_left
                      · intro hJ10_11
                        refine joinS_ (σ := (Addr × Nat)) (fun s_ w' => w'.cell? (ad265.add (((ji16)).toNat * 2)) = some (.int .i64 ((rd_T30 l0 (ji16)).f0)) ∧ w'.cell? ⟨(ad265.add (((ji16)).toNat * 2)).block, (ad265.add (((ji16)).toNat * 2)).off + 1, none⟩ = some (.int .i64 ((rd_T30 l0 (ji16)).f1)) ∧ w'.cell? (s_.1.add ((a2).toNat * 2)) = some (.int .i64 ((rd_T30 t261 a2).f0)) ∧ w'.cell? ⟨(s_.1.add ((a2).toNat * 2)).block, (s_.1.add ((a2).toNat * 2)).off + 1, none⟩ = some (.int .i64 ((rd_T30 t261 a2).f1))) 4 #[true, true, true, true, true, true, true, true, true, true, false, false, false, false] (fun s_ => [(21, (.slice (some s_.1) t261.length s_.2)), (23, .pointer (some (s_.1.add ((a2).toNat * 2)))), (24, .agg #[.int .i64 ((rd_T30 t261 a2).f0), .int .i64 ((rd_T30 t261 a2).f1)])]) (fun s_ w' => (w'.cell? (ad265.add (((ji16)).toNat * 2)) = some (.int .i64 ((rd_T30 l0 (ji16)).f0)) ∧ w'.cell? ⟨(ad265.add (((ji16)).toNat * 2)).block, (ad265.add (((ji16)).toNat * 2)).off + 1, none⟩ = some (.int .i64 ((rd_T30 l0 (ji16)).f1)) ∧ w'.cell? (s_.1.add ((a2).toNat * 2)) = some (.int .i64 ((rd_T30 t261 a2).f0)) ∧ w'.cell? ⟨(s_.1.add ((a2).toNat * 2)).block, (s_.1.add ((a2).toNat * 2)).off + 1, none⟩ = some (.int .i64 ((rd_T30 t261 a2).f1))) ∧ (Kd.R k30 30 w' w.heap.size (fun k_ => k_ ≠ gb258) (.slice (some s_.1) t261.length s_.2) t261) ∧ (w'.heap[gb258]? = some (.cells #[.int .i64 0, .int .i64 0] 30 (0, 0))) ∧ (Below w.heap.size w w')) ?_ ?_
                        rotate_left
                        · intro hJ1
                          refine join_ (σ := Nat) 6 #[true, false, true, false, false, true, true, true, true, true, true, false, false, false] (fun s_ => [(8, .pointer (some ⟨s_, 0, none⟩))]) (fun s_ w' => (w'.cell? (ad265.add (((ji16)).toNat * 2)) = some (.int .i64 ((rd_T30 l0 (ji16)).f0)) ∧ w'.cell? ⟨(ad265.add (((ji16)).toNat * 2)).block, (ad265.add (((ji16)).toNat * 2)).off + 1, none⟩ = some (.int .i64 ((rd_T30 l0 (ji16)).f1))) ∧ (w'.heap[gb258]? = some (.cells #[.int .i64 0, .int .i64 0] 30 (0, 0))) ∧ (w'.heap[s_]? = some (.cells #[.int .i64 0, .int .i64 0] 30 (0, 0))) ∧ (w.heap.size ≤ s_) ∧ (w.heap.size ≤ s_) ∧ (gb258 ≠ s_) ∧ (s_ ≠ gb258) ∧ (Below w.heap.size w w')) ?_ ?_
                          rotate_left
                          · intro hJ10
                            refine join_ (σ := Nat) 6 #[true, false, true, false, false, true, true, true, true, true, false, true, false, false] (fun s_ => [(9, .pointer (some ⟨s_, 0, none⟩))]) (fun s_ w' => (w'.cell? (ad265.add (((ji16)).toNat * 2)) = some (.int .i64 ((rd_T30 l0 (ji16)).f0)) ∧ w'.cell? ⟨(ad265.add (((ji16)).toNat * 2)).block, (ad265.add (((ji16)).toNat * 2)).off + 1, none⟩ = some (.int .i64 ((rd_T30 l0 (ji16)).f1))) ∧ (w'.heap[gb258]? = some (.cells #[.int .i64 0, .int .i64 0] 30 (0, 0))) ∧ (w'.heap[s_]? = some (.cells #[.int .i64 0, .int .i64 0] 30 (0, 0))) ∧ (w.heap.size ≤ s_) ∧ (w.heap.size ≤ s_) ∧ (gb258 ≠ s_) ∧ (s_ ≠ gb258) ∧ (Below w.heap.size w w')) ?_ ?_
                            rotate_left
                            · intro hJ11
                              refine three_ (i := 1) (j := 10) (k := 11) (Ni := some 21) (Nj := some 8) (Nk := some 9) #[true, true, true, false, false, true, true, true, true, true, false, false, false, false] #[true, false, true, false, false, true, true, true, true, true, true, false, false, false] #[true, false, true, false, false, true, true, true, true, true, false, true, false, false] rfl rfl rfl rfl rfl rfl (three_of HT_.out (by kernel_rfl)) (by decide) (by decide) (by decide) (fun K hK => ?_) (fun K hK => ?_) (fun K hK => ?_)
                              · skip
                                refine goes_ Tryd.func30 (by kernel_rfl) rfl #[.slice (some ad265) l0.length c0] (by rfl) rfl rfl (by (try simp only [List.map_toArray, List.map_cons, List.map_nil]); first | done | rfl | (simp only [List.length_drop, List.length_take]; rfl)) ?_
                                with_reducible refine (impl_sumsOf.calls kj3 _ _ l0 t261 _ ?side1 ?side2 A13.out).mono ?_
                                (case side1 => repeat (first | exact (Kd.C_below HR0.out HB.out) | (with_reducible refine Kd.C_alloc ?_ _) | (with_reducible refine Kd.C_drewN ?_ _) | (with_reducible refine Kd.C_drew ?_)))
                                (case side2 => exact HC0.out)
                                rintro e w22 ⟨v262, rfl, ho0, hb⟩
                                refine ⟨_, rfl, ?_⟩
                                have n0_ := Aside0.mk (Kd.R_lower (Kd.R_newB ho0 (g := gb258) (o := .cells #[.int .i64 0, .int .i64 0] 30 (0, 0)) (bk_ BK258)) (below_size (bl_ HB)))
                                have n1_ := Aside0.mk (blk_below (g := gb258) (o := .cells #[.int .i64 0, .int .i64 0] 30 (0, 0)) (bk_ BK258) hb)
                                have n2_ := Aside0.mk (below_step (bl_ HB) hb)
                                clear BK258
                                clear HB
                                have HO263 := n0_
                                have BK258 := n1_
                                have HB := n2_
                                clear n0_ n1_ n2_
                                (try clear hb)
                                (try clear hb2)
                                (try clear hk)
                                (try clear hi)
                                (try clear ho0)
                                refine hK.out _ _ ⟨((HB.out.cell (World.block_lt_of_cell? w _ hw265_0)).trans hw265_0), ((HB.out.cell (World.block_lt_of_cell? w _ hw265_1)).trans hw265_1)⟩ (fun hHeld => ?_)
                                clear hK K
                                obtain ⟨A_ad, c264, e_ad⟩ := Kd.R_slice HO263.out
                                subst e_ad
                                obtain ⟨ad264, e_ad, hx264_0, hx264_1⟩ := at_T30 (Kd.R_reads' HO263.out).2.2 a2 (of_eq_true p264) (of_eq_true q264)
                                cases e_ad
                                refine up_ (S' := fun w' => w'.cell? (ad265.add (((ji16)).toNat * 2)) = some (.int .i64 ((rd_T30 l0 (ji16)).f0)) ∧ w'.cell? ⟨(ad265.add (((ji16)).toNat * 2)).block, (ad265.add (((ji16)).toNat * 2)).off + 1, none⟩ = some (.int .i64 ((rd_T30 l0 (ji16)).f1)) ∧ w'.cell? (ad264.add ((a2).toNat * 2)) = some (.int .i64 ((rd_T30 t261 a2).f0)) ∧ w'.cell? ⟨(ad264.add ((a2).toNat * 2)).block, (ad264.add ((a2).toNat * 2)).off + 1, none⟩ = some (.int .i64 ((rd_T30 t261 a2).f1))) (fun _ h_ => ⟨h_.1, h_.2.1⟩) _ _ _ _ ⟨hHeld.1, hHeld.2, hx264_0, hx264_1⟩ ?_
                                have hHeld := And.intro hHeld.1 (And.intro hHeld.2 (And.intro hx264_0 hx264_1))
                                skip
                                refine norm_ (a' := ?_) ?_ ?_
                                rotate_left
                                · show Act.put _ (some 21) _ = _
                                  simp only [Act.put, sa_, sb_, sc_, i64_w, i32_w]
                                  rfl
                                refine pure_ (i := 3) (N := some 23) (v := ?_) (a' := ?_) #[true, true, true, true, false, true, true, true, true, true, false, false, false, false] rfl rfl (any_of HT_.out (by kernel_rfl)) (fun _ _ _ h => h) (Or.inl ⟨by rfl, ?_⟩) ?_ ?_
                                rotate_left
                                · intro w'
                                  go_simp
                                  with_reducible rfl
                                rotate_left
                                · simp only [Act.put, sa_, sb_, sc_, i64_w, i32_w]
                                  rfl
                                refine take_ (i := 4) (N := some 24) (v := ?_) (a' := ?_) #[true, true, true, true, true, true, true, true, true, true, false, false, false, false] rfl rfl (take_ofW HT_.out HW_.out (by kernel_rfl)) (fun _ _ _ h => h) (Or.inl ⟨by rfl, ?_⟩) hHeld ?_ ?_
                                rotate_left
                                · rintro w' ⟨s0, s1, s2, s3⟩
                                  go_simp
                                  with_reducible rfl
                                rotate_left
                                · simp only [Act.put, sa_, sb_, sc_, i64_w, i32_w]
                                  rfl
                                exact norm_ (by first | (simp only [putAll, Act.put, sa_, sb_, sc_]; done) | (simp only [putAll, Act.put, sa_, sb_, sc_]; rfl)) (hJ1 (ad264, c264) _ ⟨hHeld, (by (with_reducible repeat (first | apply Kd.R_alloc | apply Kd.R_drewN | apply Kd.R_drew)); exact Kd.R_mono HO263.out (fun _ hk => hk.2)), (bk_ BK258), (bl_ HB)⟩)
                              · skip
                                refine box_step ?hg (N := 8) ?hd (cs := #[.int .i64 0, .int .i64 0]) (t := 30) ?hr ?_; (case hd => rfl); (case hg => rfl); (case hr => first | (go_simp; done) | (go_simp; rfl))
                                intro gb266 hg w22 hbox hb
                                have n0_ := Aside0.mk (blk_below (g := gb258) (o := .cells #[.int .i64 0, .int .i64 0] 30 (0, 0)) (bk_ BK258) hb)
                                have n1_ := Aside0.mk (below_step (bl_ HB) hb)
                                have n2_ := Aside0.mk (hbox)
                                have n3_ := Aside0.mk ((by rw [hg]; exact (below_size (bl_ HB)) : w.heap.size ≤ gb266))
                                have n4_ := Aside0.mk ((by rw [hg]; exact (below_size (bl_ HB)) : w.heap.size ≤ gb266))
                                have n5_ := Aside0.mk ((by rw [hg]; exact Nat.ne_of_lt (blk_lt (g := gb258) (o := .cells #[.int .i64 0, .int .i64 0] 30 (0, 0)) (bk_ BK258)) : gb258 ≠ gb266))
                                have n6_ := Aside0.mk ((by rw [hg]; exact Nat.ne_of_gt (blk_lt (g := gb258) (o := .cells #[.int .i64 0, .int .i64 0] 30 (0, 0)) (bk_ BK258)) : gb266 ≠ gb258))
                                clear BK258
                                clear HB
                                have BK258 := n0_
                                have HB := n1_
                                have BK266 := n2_
                                have GW266 := n3_
                                have GE266 := n4_
                                have NB258_266 := n5_
                                have NB266_258 := n6_
                                clear n0_ n1_ n2_ n3_ n4_ n5_ n6_
                                clear hb hbox hg
                                refine hK.out _ _ ⟨((HB.out.cell (World.block_lt_of_cell? w _ hw265_0)).trans hw265_0), ((HB.out.cell (World.block_lt_of_cell? w _ hw265_1)).trans hw265_1)⟩ (fun hHeld => ?_)
                                clear hK K
                                refine norm_ (a' := ?_) ?_ ?_
                                rotate_left
                                · show Act.put _ (some 8) _ = _
                                  simp only [Act.put, sa_, sb_, sc_, i64_w, i32_w]
                                  rfl
                                exact norm_ (by first | (simp only [putAll, Act.put, sa_, sb_, sc_]; done) | (simp only [putAll, Act.put, sa_, sb_, sc_]; rfl)) (hJ10 (gb266) _ ⟨hHeld, (bk_ BK258), (bk_ BK266), GW266.out, GE266.out, NB258_266.out, NB266_258.out, (bl_ HB)⟩)
                              · skip
                                refine box_step ?hg (N := 9) ?hd (cs := #[.int .i64 0, .int .i64 0]) (t := 30) ?hr ?_; (case hd => rfl); (case hg => rfl); (case hr => first | (go_simp; done) | (go_simp; rfl))
                                intro gb267 hg w22 hbox hb
                                have n0_ := Aside0.mk (blk_below (g := gb258) (o := .cells #[.int .i64 0, .int .i64 0] 30 (0, 0)) (bk_ BK258) hb)
                                have n1_ := Aside0.mk (below_step (bl_ HB) hb)
                                have n2_ := Aside0.mk (hbox)
                                have n3_ := Aside0.mk ((by rw [hg]; exact (below_size (bl_ HB)) : w.heap.size ≤ gb267))
                                have n4_ := Aside0.mk ((by rw [hg]; exact (below_size (bl_ HB)) : w.heap.size ≤ gb267))
                                have n5_ := Aside0.mk ((by rw [hg]; exact Nat.ne_of_lt (blk_lt (g := gb258) (o := .cells #[.int .i64 0, .int .i64 0] 30 (0, 0)) (bk_ BK258)) : gb258 ≠ gb267))
                                have n6_ := Aside0.mk ((by rw [hg]; exact Nat.ne_of_gt (blk_lt (g := gb258) (o := .cells #[.int .i64 0, .int .i64 0] 30 (0, 0)) (bk_ BK258)) : gb267 ≠ gb258))
                                clear BK258
                                clear HB
                                have BK258 := n0_
                                have HB := n1_
                                have BK267 := n2_
                                have GW267 := n3_
                                have GE267 := n4_
                                have NB258_267 := n5_
                                have NB267_258 := n6_
                                clear n0_ n1_ n2_ n3_ n4_ n5_ n6_
                                clear hb hbox hg
                                refine hK.out _ _ ⟨((HB.out.cell (World.block_lt_of_cell? w _ hw265_0)).trans hw265_0), ((HB.out.cell (World.block_lt_of_cell? w _ hw265_1)).trans hw265_1)⟩ (fun hHeld => ?_)
                                clear hK K
                                refine norm_ (a' := ?_) ?_ ?_
                                rotate_left
                                · show Act.put _ (some 9) _ = _
                                  simp only [Act.put, sa_, sb_, sc_, i64_w, i32_w]
                                  rfl
                                exact norm_ (by first | (simp only [putAll, Act.put, sa_, sb_, sc_]; done) | (simp only [putAll, Act.put, sa_, sb_, sc_]; rfl)) (hJ11 (gb267) _ ⟨hHeld, (bk_ BK258), (bk_ BK267), GW267.out, GE267.out, NB258_267.out, NB267_258.out, (bl_ HB)⟩)
                            · skip
                              rintro gb267 w23 ⟨hS_, h0_, h1_, h2_, h3_, h4_, h5_, h6_⟩
                              have n0_ : Aside0 (w23.heap[gb258]? = some (.cells #[.int .i64 0, .int .i64 0] 30 (0, 0))) := ⟨h0_⟩
                              have n1_ : Aside0 (w23.heap[gb267]? = some (.cells #[.int .i64 0, .int .i64 0] 30 (0, 0))) := ⟨h1_⟩
                              have n2_ : Aside0 (w.heap.size ≤ gb267) := ⟨h2_⟩
                              have n3_ : Aside0 (w.heap.size ≤ gb267) := ⟨h3_⟩
                              have n4_ : Aside0 (gb258 ≠ gb267) := ⟨h4_⟩
                              have n5_ : Aside0 (gb267 ≠ gb258) := ⟨h5_⟩
                              have n6_ : Aside0 (Below w.heap.size w w23) := ⟨h6_⟩
                              clear BK258
                              clear HB
                              clear h0_ h1_ h2_ h3_ h4_ h5_ h6_
                              have BK258 := n0_
                              have BK267 := n1_
                              have GW267 := n2_
                              have GE267 := n3_
                              have NB258_267 := n4_
                              have NB267_258 := n5_
                              have HB := n6_
                              clear n0_ n1_ n2_ n3_ n4_ n5_ n6_
                              have hHeld : w23.cell? (ad265.add (((ji16)).toNat * 2)) = some (.int .i64 ((rd_T30 l0 (ji16)).f0)) ∧ w23.cell? ⟨(ad265.add (((ji16)).toNat * 2)).block, (ad265.add (((ji16)).toNat * 2)).off + 1, none⟩ = some (.int .i64 ((rd_T30 l0 (ji16)).f1)) := hS_
                              refine norm_ (a' := ?_) ?_ ?_
                              rotate_left
                              · simp only [putAll, Act.put, sa_, sb_, sc_]
                                rfl
                              refine two_ (i := 1) (j := 10) (Ni := some 21) (Nj := some 8) #[true, true, true, false, false, true, true, true, true, true, false, true, false, false] #[true, false, true, false, false, true, true, true, true, true, true, true, false, false] rfl rfl rfl rfl (two_of HT_.out (by kernel_rfl)) (by decide) (by decide) (fun K hK => ?_) (fun K hK => ?_)
                              · skip
                                refine goes_ Tryd.func30 (by kernel_rfl) rfl #[.slice (some ad265) l0.length c0] (by rfl) rfl rfl (by (try simp only [List.map_toArray, List.map_cons, List.map_nil]); first | done | rfl | (simp only [List.length_drop, List.length_take]; rfl)) ?_
                                with_reducible refine (impl_sumsOf.calls kj3 _ _ l0 t261 _ ?side1 ?side2 A13.out).mono ?_
                                (case side1 => repeat (first | exact (Kd.C_below HR0.out HB.out) | (with_reducible refine Kd.C_alloc ?_ _) | (with_reducible refine Kd.C_drewN ?_ _) | (with_reducible refine Kd.C_drew ?_)))
                                (case side2 => exact HC0.out)
                                rintro e w24 ⟨v262, rfl, ho0, hb⟩
                                refine ⟨_, rfl, ?_⟩
                                have n0_ := Aside0.mk (Kd.R_lower (Kd.R_newB (Kd.R_newB ho0 (g := gb258) (o := .cells #[.int .i64 0, .int .i64 0] 30 (0, 0)) (bk_ BK258)) (g := gb267) (o := .cells #[.int .i64 0, .int .i64 0] 30 (0, 0)) (bk_ BK267)) (below_size (bl_ HB)))
                                have n1_ := Aside0.mk (blk_below (g := gb258) (o := .cells #[.int .i64 0, .int .i64 0] 30 (0, 0)) (bk_ BK258) hb)
                                have n2_ := Aside0.mk (blk_below (g := gb267) (o := .cells #[.int .i64 0, .int .i64 0] 30 (0, 0)) (bk_ BK267) hb)
                                have n3_ := Aside0.mk (below_step (bl_ HB) hb)
                                clear BK258
                                clear BK267
                                clear HB
                                have HO263 := n0_
                                have BK258 := n1_
                                have BK267 := n2_
                                have HB := n3_
                                clear n0_ n1_ n2_ n3_
                                (try clear hb)
                                (try clear hb2)
                                (try clear hk)
                                (try clear hi)
                                (try clear ho0)
                                refine hK.out _ _ ⟨((HB.out.cell (World.block_lt_of_cell? w _ hw265_0)).trans hw265_0), ((HB.out.cell (World.block_lt_of_cell? w _ hw265_1)).trans hw265_1)⟩ (fun hHeld => ?_)
                                clear hK K
                                obtain ⟨A_ad, c264, e_ad⟩ := Kd.R_slice HO263.out
                                subst e_ad
                                obtain ⟨ad264, e_ad, hx264_0, hx264_1⟩ := at_T30 (Kd.R_reads' HO263.out).2.2 a2 (of_eq_true p264) (of_eq_true q264)
                                cases e_ad
                                refine up_ (S' := fun w' => w'.cell? (ad265.add (((ji16)).toNat * 2)) = some (.int .i64 ((rd_T30 l0 (ji16)).f0)) ∧ w'.cell? ⟨(ad265.add (((ji16)).toNat * 2)).block, (ad265.add (((ji16)).toNat * 2)).off + 1, none⟩ = some (.int .i64 ((rd_T30 l0 (ji16)).f1)) ∧ w'.cell? (ad264.add ((a2).toNat * 2)) = some (.int .i64 ((rd_T30 t261 a2).f0)) ∧ w'.cell? ⟨(ad264.add ((a2).toNat * 2)).block, (ad264.add ((a2).toNat * 2)).off + 1, none⟩ = some (.int .i64 ((rd_T30 t261 a2).f1))) (fun _ h_ => ⟨h_.1, h_.2.1⟩) _ _ _ _ ⟨hHeld.1, hHeld.2, hx264_0, hx264_1⟩ ?_
                                have hHeld := And.intro hHeld.1 (And.intro hHeld.2 (And.intro hx264_0 hx264_1))
                                skip
                                refine norm_ (a' := ?_) ?_ ?_
                                rotate_left
                                · show Act.put _ (some 21) _ = _
                                  simp only [Act.put, sa_, sb_, sc_, i64_w, i32_w]
                                  rfl
                                refine pure_ (i := 3) (N := some 23) (v := ?_) (a' := ?_) #[true, true, true, true, false, true, true, true, true, true, false, true, false, false] rfl rfl (any_of HT_.out (by kernel_rfl)) (fun _ _ _ h => h) (Or.inl ⟨by rfl, ?_⟩) ?_ ?_
                                rotate_left
                                · intro w'
                                  go_simp
                                  with_reducible rfl
                                rotate_left
                                · simp only [Act.put, sa_, sb_, sc_, i64_w, i32_w]
                                  rfl
                                refine take_ (i := 4) (N := some 24) (v := ?_) (a' := ?_) #[true, true, true, true, true, true, true, true, true, true, false, true, false, false] rfl rfl (take_ofW HT_.out HW_.out (by kernel_rfl)) (fun _ _ _ h => h) (Or.inl ⟨by rfl, ?_⟩) hHeld ?_ ?_
                                rotate_left
                                · rintro w' ⟨s0, s1, s2, s3⟩
                                  go_simp
                                  with_reducible rfl
                                rotate_left
                                · simp only [Act.put, sa_, sb_, sc_, i64_w, i32_w]
                                  rfl
                                exact norm_ (by first | (simp only [putAll, Act.put, sa_, sb_, sc_]; done) | (simp only [putAll, Act.put, sa_, sb_, sc_]; rfl)) (hJ1_11 ((ad264, c264), gb267) _ ⟨hHeld, (by (with_reducible repeat (first | apply Kd.R_alloc | apply Kd.R_drewN | apply Kd.R_drew)); exact Kd.R_mono HO263.out (fun _ hk => ⟨hk.1.2, hk.2⟩)), (bk_ BK258), (bk_ BK267), GW267.out, GE267.out, NB258_267.out, NB267_258.out, (bl_ HB)⟩)
                              · skip
                                refine box_step ?hg (N := 8) ?hd (cs := #[.int .i64 0, .int .i64 0]) (t := 30) ?hr ?_; (case hd => rfl); (case hg => rfl); (case hr => first | (go_simp; done) | (go_simp; rfl))
                                intro gb266 hg w24 hbox hb
                                have n0_ := Aside0.mk (blk_below (g := gb258) (o := .cells #[.int .i64 0, .int .i64 0] 30 (0, 0)) (bk_ BK258) hb)
                                have n1_ := Aside0.mk (blk_below (g := gb267) (o := .cells #[.int .i64 0, .int .i64 0] 30 (0, 0)) (bk_ BK267) hb)
                                have n2_ := Aside0.mk (below_step (bl_ HB) hb)
                                have n3_ := Aside0.mk (hbox)
                                have n4_ := Aside0.mk ((by rw [hg]; exact (below_size (bl_ HB)) : w.heap.size ≤ gb266))
                                have n5_ := Aside0.mk ((by rw [hg]; exact (below_size (bl_ HB)) : w.heap.size ≤ gb266))
                                have n6_ := Aside0.mk ((by rw [hg]; exact Nat.ne_of_lt (blk_lt (g := gb258) (o := .cells #[.int .i64 0, .int .i64 0] 30 (0, 0)) (bk_ BK258)) : gb258 ≠ gb266))
                                have n7_ := Aside0.mk ((by rw [hg]; exact Nat.ne_of_gt (blk_lt (g := gb258) (o := .cells #[.int .i64 0, .int .i64 0] 30 (0, 0)) (bk_ BK258)) : gb266 ≠ gb258))
                                have n8_ := Aside0.mk ((by rw [hg]; exact Nat.ne_of_lt (blk_lt (g := gb267) (o := .cells #[.int .i64 0, .int .i64 0] 30 (0, 0)) (bk_ BK267)) : gb267 ≠ gb266))
                                have n9_ := Aside0.mk ((by rw [hg]; exact Nat.ne_of_gt (blk_lt (g := gb267) (o := .cells #[.int .i64 0, .int .i64 0] 30 (0, 0)) (bk_ BK267)) : gb266 ≠ gb267))
                                clear BK258
                                clear BK267
                                clear HB
                                have BK258 := n0_
                                have BK267 := n1_
                                have HB := n2_
                                have BK266 := n3_
                                have GW266 := n4_
                                have GE266 := n5_
                                have NB258_266 := n6_
                                have NB266_258 := n7_
                                have NB267_266 := n8_
                                have NB266_267 := n9_
                                clear n0_ n1_ n2_ n3_ n4_ n5_ n6_ n7_ n8_ n9_
                                clear hb hbox hg
                                refine hK.out _ _ ⟨((HB.out.cell (World.block_lt_of_cell? w _ hw265_0)).trans hw265_0), ((HB.out.cell (World.block_lt_of_cell? w _ hw265_1)).trans hw265_1)⟩ (fun hHeld => ?_)
                                clear hK K
                                refine norm_ (a' := ?_) ?_ ?_
                                rotate_left
                                · show Act.put _ (some 8) _ = _
                                  simp only [Act.put, sa_, sb_, sc_, i64_w, i32_w]
                                  rfl
                                exact norm_ (by first | (simp only [putAll, Act.put, sa_, sb_, sc_]; done) | (simp only [putAll, Act.put, sa_, sb_, sc_]; rfl)) (hJ10_11 (gb266, gb267) _ ⟨hHeld, (bk_ BK258), (bk_ BK266), (bk_ BK267), GW266.out, GE266.out, NB258_266.out, NB266_258.out, NB267_266.out, NB266_267.out, GW267.out, GE267.out, NB258_267.out, NB267_258.out, (bl_ HB)⟩)
                          · skip
                            rintro gb266 w23 ⟨hS_, h0_, h1_, h2_, h3_, h4_, h5_, h6_⟩
                            have n0_ : Aside0 (w23.heap[gb258]? = some (.cells #[.int .i64 0, .int .i64 0] 30 (0, 0))) := ⟨h0_⟩
                            have n1_ : Aside0 (w23.heap[gb266]? = some (.cells #[.int .i64 0, .int .i64 0] 30 (0, 0))) := ⟨h1_⟩
                            have n2_ : Aside0 (w.heap.size ≤ gb266) := ⟨h2_⟩
                            have n3_ : Aside0 (w.heap.size ≤ gb266) := ⟨h3_⟩
                            have n4_ : Aside0 (gb258 ≠ gb266) := ⟨h4_⟩
                            have n5_ : Aside0 (gb266 ≠ gb258) := ⟨h5_⟩
                            have n6_ : Aside0 (Below w.heap.size w w23) := ⟨h6_⟩
                            clear BK258
                            clear HB
                            clear h0_ h1_ h2_ h3_ h4_ h5_ h6_
                            have BK258 := n0_
                            have BK266 := n1_
                            have GW266 := n2_
                            have GE266 := n3_
                            have NB258_266 := n4_
                            have NB266_258 := n5_
                            have HB := n6_
                            clear n0_ n1_ n2_ n3_ n4_ n5_ n6_
                            have hHeld : w23.cell? (ad265.add (((ji16)).toNat * 2)) = some (.int .i64 ((rd_T30 l0 (ji16)).f0)) ∧ w23.cell? ⟨(ad265.add (((ji16)).toNat * 2)).block, (ad265.add (((ji16)).toNat * 2)).off + 1, none⟩ = some (.int .i64 ((rd_T30 l0 (ji16)).f1)) := hS_
                            refine norm_ (a' := ?_) ?_ ?_
                            rotate_left
                            · simp only [putAll, Act.put, sa_, sb_, sc_]
                              rfl
                            refine two_ (i := 1) (j := 11) (Ni := some 21) (Nj := some 9) #[true, true, true, false, false, true, true, true, true, true, true, false, false, false] #[true, false, true, false, false, true, true, true, true, true, true, true, false, false] rfl rfl rfl rfl (two_of HT_.out (by kernel_rfl)) (by decide) (by decide) (fun K hK => ?_) (fun K hK => ?_)
                            · skip
                              refine goes_ Tryd.func30 (by kernel_rfl) rfl #[.slice (some ad265) l0.length c0] (by rfl) rfl rfl (by (try simp only [List.map_toArray, List.map_cons, List.map_nil]); first | done | rfl | (simp only [List.length_drop, List.length_take]; rfl)) ?_
                              with_reducible refine (impl_sumsOf.calls kj3 _ _ l0 t261 _ ?side1 ?side2 A13.out).mono ?_
                              (case side1 => repeat (first | exact (Kd.C_below HR0.out HB.out) | (with_reducible refine Kd.C_alloc ?_ _) | (with_reducible refine Kd.C_drewN ?_ _) | (with_reducible refine Kd.C_drew ?_)))
                              (case side2 => exact HC0.out)
                              rintro e w24 ⟨v262, rfl, ho0, hb⟩
                              refine ⟨_, rfl, ?_⟩
                              have n0_ := Aside0.mk (Kd.R_lower (Kd.R_newB (Kd.R_newB ho0 (g := gb258) (o := .cells #[.int .i64 0, .int .i64 0] 30 (0, 0)) (bk_ BK258)) (g := gb266) (o := .cells #[.int .i64 0, .int .i64 0] 30 (0, 0)) (bk_ BK266)) (below_size (bl_ HB)))
                              have n1_ := Aside0.mk (blk_below (g := gb258) (o := .cells #[.int .i64 0, .int .i64 0] 30 (0, 0)) (bk_ BK258) hb)
                              have n2_ := Aside0.mk (blk_below (g := gb266) (o := .cells #[.int .i64 0, .int .i64 0] 30 (0, 0)) (bk_ BK266) hb)
                              have n3_ := Aside0.mk (below_step (bl_ HB) hb)
                              clear BK258
                              clear BK266
                              clear HB
                              have HO263 := n0_
                              have BK258 := n1_
                              have BK266 := n2_
                              have HB := n3_
                              clear n0_ n1_ n2_ n3_
                              (try clear hb)
                              (try clear hb2)
                              (try clear hk)
                              (try clear hi)
                              (try clear ho0)
                              refine hK.out _ _ ⟨((HB.out.cell (World.block_lt_of_cell? w _ hw265_0)).trans hw265_0), ((HB.out.cell (World.block_lt_of_cell? w _ hw265_1)).trans hw265_1)⟩ (fun hHeld => ?_)
                              clear hK K
                              obtain ⟨A_ad, c264, e_ad⟩ := Kd.R_slice HO263.out
                              subst e_ad
                              obtain ⟨ad264, e_ad, hx264_0, hx264_1⟩ := at_T30 (Kd.R_reads' HO263.out).2.2 a2 (of_eq_true p264) (of_eq_true q264)
                              cases e_ad
                              refine up_ (S' := fun w' => w'.cell? (ad265.add (((ji16)).toNat * 2)) = some (.int .i64 ((rd_T30 l0 (ji16)).f0)) ∧ w'.cell? ⟨(ad265.add (((ji16)).toNat * 2)).block, (ad265.add (((ji16)).toNat * 2)).off + 1, none⟩ = some (.int .i64 ((rd_T30 l0 (ji16)).f1)) ∧ w'.cell? (ad264.add ((a2).toNat * 2)) = some (.int .i64 ((rd_T30 t261 a2).f0)) ∧ w'.cell? ⟨(ad264.add ((a2).toNat * 2)).block, (ad264.add ((a2).toNat * 2)).off + 1, none⟩ = some (.int .i64 ((rd_T30 t261 a2).f1))) (fun _ h_ => ⟨h_.1, h_.2.1⟩) _ _ _ _ ⟨hHeld.1, hHeld.2, hx264_0, hx264_1⟩ ?_
                              have hHeld := And.intro hHeld.1 (And.intro hHeld.2 (And.intro hx264_0 hx264_1))
                              skip
                              refine norm_ (a' := ?_) ?_ ?_
                              rotate_left
                              · show Act.put _ (some 21) _ = _
                                simp only [Act.put, sa_, sb_, sc_, i64_w, i32_w]
                                rfl
                              refine pure_ (i := 3) (N := some 23) (v := ?_) (a' := ?_) #[true, true, true, true, false, true, true, true, true, true, true, false, false, false] rfl rfl (any_of HT_.out (by kernel_rfl)) (fun _ _ _ h => h) (Or.inl ⟨by rfl, ?_⟩) ?_ ?_
                              rotate_left
                              · intro w'
                                go_simp
                                with_reducible rfl
                              rotate_left
                              · simp only [Act.put, sa_, sb_, sc_, i64_w, i32_w]
                                rfl
                              refine take_ (i := 4) (N := some 24) (v := ?_) (a' := ?_) #[true, true, true, true, true, true, true, true, true, true, true, false, false, false] rfl rfl (take_ofW HT_.out HW_.out (by kernel_rfl)) (fun _ _ _ h => h) (Or.inl ⟨by rfl, ?_⟩) hHeld ?_ ?_
                              rotate_left
                              · rintro w' ⟨s0, s1, s2, s3⟩
                                go_simp
                                with_reducible rfl
                              rotate_left
                              · simp only [Act.put, sa_, sb_, sc_, i64_w, i32_w]
                                rfl
                              exact norm_ (by first | (simp only [putAll, Act.put, sa_, sb_, sc_]; done) | (simp only [putAll, Act.put, sa_, sb_, sc_]; rfl)) (hJ1_10 ((ad264, c264), gb266) _ ⟨hHeld, (by (with_reducible repeat (first | apply Kd.R_alloc | apply Kd.R_drewN | apply Kd.R_drew)); exact Kd.R_mono HO263.out (fun _ hk => ⟨hk.1.2, hk.2⟩)), (bk_ BK258), (bk_ BK266), GW266.out, GE266.out, NB258_266.out, NB266_258.out, (bl_ HB)⟩)
                            · skip
                              refine box_step ?hg (N := 9) ?hd (cs := #[.int .i64 0, .int .i64 0]) (t := 30) ?hr ?_; (case hd => rfl); (case hg => rfl); (case hr => first | (go_simp; done) | (go_simp; rfl))
                              intro gb267 hg w24 hbox hb
                              have n0_ := Aside0.mk (blk_below (g := gb258) (o := .cells #[.int .i64 0, .int .i64 0] 30 (0, 0)) (bk_ BK258) hb)
                              have n1_ := Aside0.mk (blk_below (g := gb266) (o := .cells #[.int .i64 0, .int .i64 0] 30 (0, 0)) (bk_ BK266) hb)
                              have n2_ := Aside0.mk (below_step (bl_ HB) hb)
                              have n3_ := Aside0.mk (hbox)
                              have n4_ := Aside0.mk ((by rw [hg]; exact (below_size (bl_ HB)) : w.heap.size ≤ gb267))
                              have n5_ := Aside0.mk ((by rw [hg]; exact (below_size (bl_ HB)) : w.heap.size ≤ gb267))
                              have n6_ := Aside0.mk ((by rw [hg]; exact Nat.ne_of_lt (blk_lt (g := gb258) (o := .cells #[.int .i64 0, .int .i64 0] 30 (0, 0)) (bk_ BK258)) : gb258 ≠ gb267))
                              have n7_ := Aside0.mk ((by rw [hg]; exact Nat.ne_of_gt (blk_lt (g := gb258) (o := .cells #[.int .i64 0, .int .i64 0] 30 (0, 0)) (bk_ BK258)) : gb267 ≠ gb258))
                              have n8_ := Aside0.mk ((by rw [hg]; exact Nat.ne_of_lt (blk_lt (g := gb266) (o := .cells #[.int .i64 0, .int .i64 0] 30 (0, 0)) (bk_ BK266)) : gb266 ≠ gb267))
                              have n9_ := Aside0.mk ((by rw [hg]; exact Nat.ne_of_gt (blk_lt (g := gb266) (o := .cells #[.int .i64 0, .int .i64 0] 30 (0, 0)) (bk_ BK266)) : gb267 ≠ gb266))
                              clear BK258
                              clear BK266
                              clear HB
                              have BK258 := n0_
                              have BK266 := n1_
                              have HB := n2_
                              have BK267 := n3_
                              have GW267 := n4_
                              have GE267 := n5_
                              have NB258_267 := n6_
                              have NB267_258 := n7_
                              have NB266_267 := n8_
                              have NB267_266 := n9_
                              clear n0_ n1_ n2_ n3_ n4_ n5_ n6_ n7_ n8_ n9_
                              clear hb hbox hg
                              refine hK.out _ _ ⟨((HB.out.cell (World.block_lt_of_cell? w _ hw265_0)).trans hw265_0), ((HB.out.cell (World.block_lt_of_cell? w _ hw265_1)).trans hw265_1)⟩ (fun hHeld => ?_)
                              clear hK K
                              refine norm_ (a' := ?_) ?_ ?_
                              rotate_left
                              · show Act.put _ (some 9) _ = _
                                simp only [Act.put, sa_, sb_, sc_, i64_w, i32_w]
                                rfl
                              exact norm_ (by first | (simp only [putAll, Act.put, sa_, sb_, sc_]; done) | (simp only [putAll, Act.put, sa_, sb_, sc_]; rfl)) (hJ10_11 (gb266, gb267) _ ⟨hHeld, (bk_ BK258), (bk_ BK266), (bk_ BK267), GW266.out, GE266.out, NB258_266.out, NB266_258.out, NB267_266.out, NB266_267.out, GW267.out, GE267.out, NB258_267.out, NB267_258.out, (bl_ HB)⟩)
                        · skip
                          rintro ⟨ad264, c264⟩ w23 ⟨hS_, h0_, h1_, h2_⟩
                          have n0_ : Aside0 (Kd.R k30 30 w23 w.heap.size (fun k_ => k_ ≠ gb258) (.slice (some ad264) t261.length c264) t261) := ⟨h0_⟩
                          have n1_ : Aside0 (w23.heap[gb258]? = some (.cells #[.int .i64 0, .int .i64 0] 30 (0, 0))) := ⟨h1_⟩
                          have n2_ : Aside0 (Below w.heap.size w w23) := ⟨h2_⟩
                          clear BK258
                          clear HB
                          clear h0_ h1_ h2_
                          have HO263 := n0_
                          have BK258 := n1_
                          have HB := n2_
                          clear n0_ n1_ n2_
                          have hHeld : w23.cell? (ad265.add (((ji16)).toNat * 2)) = some (.int .i64 ((rd_T30 l0 (ji16)).f0)) ∧ w23.cell? ⟨(ad265.add (((ji16)).toNat * 2)).block, (ad265.add (((ji16)).toNat * 2)).off + 1, none⟩ = some (.int .i64 ((rd_T30 l0 (ji16)).f1)) ∧ w23.cell? (ad264.add ((a2).toNat * 2)) = some (.int .i64 ((rd_T30 t261 a2).f0)) ∧ w23.cell? ⟨(ad264.add ((a2).toNat * 2)).block, (ad264.add ((a2).toNat * 2)).off + 1, none⟩ = some (.int .i64 ((rd_T30 t261 a2).f1)) := hS_
                          refine norm_ (a' := ?_) ?_ ?_
                          rotate_left
                          · simp only [putAll, Act.put, sa_, sb_, sc_]
                            rfl
                          refine two_ (i := 10) (j := 11) (Ni := some 8) (Nj := some 9) #[true, true, true, true, true, true, true, true, true, true, true, false, false, false] #[true, true, true, true, true, true, true, true, true, true, false, true, false, false] rfl rfl rfl rfl (two_of HT_.out (by kernel_rfl)) (by decide) (by decide) (fun K hK => ?_) (fun K hK => ?_)
                          · skip
                            refine box_step ?hg (N := 8) ?hd (cs := #[.int .i64 0, .int .i64 0]) (t := 30) ?hr ?_; (case hd => rfl); (case hg => rfl); (case hr => first | (go_simp; done) | (go_simp; rfl))
                            intro gb266 hg w24 hbox hb
                            have HS2_ := (hb.cell (World.block_lt_of_cell? _ _ (hHeld.2.2.1))).trans (hHeld.2.2.1)
                            have HS3_ := (hb.cell (World.block_lt_of_cell? _ _ (hHeld.2.2.2))).trans (hHeld.2.2.2)
                            have n0_ := Aside0.mk (Kd.R_below (Kd.R_elderB (kr_ HO263) gb266 (Nat.le_of_eq hg.symm)) hb)
                            have n1_ := Aside0.mk (blk_below (g := gb258) (o := .cells #[.int .i64 0, .int .i64 0] 30 (0, 0)) (bk_ BK258) hb)
                            have n2_ := Aside0.mk (below_step (bl_ HB) hb)
                            have n3_ := Aside0.mk (hbox)
                            have n4_ := Aside0.mk ((by rw [hg]; exact (below_size (bl_ HB)) : w.heap.size ≤ gb266))
                            have n5_ := Aside0.mk ((by rw [hg]; exact (below_size (bl_ HB)) : w.heap.size ≤ gb266))
                            have n6_ := Aside0.mk ((by rw [hg]; exact Nat.ne_of_lt (blk_lt (g := gb258) (o := .cells #[.int .i64 0, .int .i64 0] 30 (0, 0)) (bk_ BK258)) : gb258 ≠ gb266))
                            have n7_ := Aside0.mk ((by rw [hg]; exact Nat.ne_of_gt (blk_lt (g := gb258) (o := .cells #[.int .i64 0, .int .i64 0] 30 (0, 0)) (bk_ BK258)) : gb266 ≠ gb258))
                            clear HO263
                            clear BK258
                            clear HB
                            have HO263 := n0_
                            have BK258 := n1_
                            have HB := n2_
                            have BK266 := n3_
                            have GW266 := n4_
                            have GE266 := n5_
                            have NB258_266 := n6_
                            have NB266_258 := n7_
                            clear n0_ n1_ n2_ n3_ n4_ n5_ n6_ n7_
                            clear hb hbox hg
                            refine hK.out _ _ ⟨((HB.out.cell (World.block_lt_of_cell? w _ hw265_0)).trans hw265_0), ((HB.out.cell (World.block_lt_of_cell? w _ hw265_1)).trans hw265_1), HS2_, HS3_⟩ (fun hHeld => ?_)
                            clear hK K
                            refine norm_ (a' := ?_) ?_ ?_
                            rotate_left
                            · show Act.put _ (some 8) _ = _
                              simp only [Act.put, sa_, sb_, sc_, i64_w, i32_w]
                              rfl
                            exact norm_ (by first | (simp only [putAll, Act.put, sa_, sb_, sc_]; done) | (simp only [putAll, Act.put, sa_, sb_, sc_]; rfl)) (hJ1_10 ((ad264, c264), gb266) _ ⟨hHeld, (kr_ HO263), (bk_ BK258), (bk_ BK266), GW266.out, GE266.out, NB258_266.out, NB266_258.out, (bl_ HB)⟩)
                          · skip
                            refine box_step ?hg (N := 9) ?hd (cs := #[.int .i64 0, .int .i64 0]) (t := 30) ?hr ?_; (case hd => rfl); (case hg => rfl); (case hr => first | (go_simp; done) | (go_simp; rfl))
                            intro gb267 hg w24 hbox hb
                            have HS2_ := (hb.cell (World.block_lt_of_cell? _ _ (hHeld.2.2.1))).trans (hHeld.2.2.1)
                            have HS3_ := (hb.cell (World.block_lt_of_cell? _ _ (hHeld.2.2.2))).trans (hHeld.2.2.2)
                            have n0_ := Aside0.mk (Kd.R_below (Kd.R_elderB (kr_ HO263) gb267 (Nat.le_of_eq hg.symm)) hb)
                            have n1_ := Aside0.mk (blk_below (g := gb258) (o := .cells #[.int .i64 0, .int .i64 0] 30 (0, 0)) (bk_ BK258) hb)
                            have n2_ := Aside0.mk (below_step (bl_ HB) hb)
                            have n3_ := Aside0.mk (hbox)
                            have n4_ := Aside0.mk ((by rw [hg]; exact (below_size (bl_ HB)) : w.heap.size ≤ gb267))
                            have n5_ := Aside0.mk ((by rw [hg]; exact (below_size (bl_ HB)) : w.heap.size ≤ gb267))
                            have n6_ := Aside0.mk ((by rw [hg]; exact Nat.ne_of_lt (blk_lt (g := gb258) (o := .cells #[.int .i64 0, .int .i64 0] 30 (0, 0)) (bk_ BK258)) : gb258 ≠ gb267))
                            have n7_ := Aside0.mk ((by rw [hg]; exact Nat.ne_of_gt (blk_lt (g := gb258) (o := .cells #[.int .i64 0, .int .i64 0] 30 (0, 0)) (bk_ BK258)) : gb267 ≠ gb258))
                            clear HO263
                            clear BK258
                            clear HB
                            have HO263 := n0_
                            have BK258 := n1_
                            have HB := n2_
                            have BK267 := n3_
                            have GW267 := n4_
                            have GE267 := n5_
                            have NB258_267 := n6_
                            have NB267_258 := n7_
                            clear n0_ n1_ n2_ n3_ n4_ n5_ n6_ n7_
                            clear hb hbox hg
                            refine hK.out _ _ ⟨((HB.out.cell (World.block_lt_of_cell? w _ hw265_0)).trans hw265_0), ((HB.out.cell (World.block_lt_of_cell? w _ hw265_1)).trans hw265_1), HS2_, HS3_⟩ (fun hHeld => ?_)
                            clear hK K
                            refine norm_ (a' := ?_) ?_ ?_
                            rotate_left
                            · show Act.put _ (some 9) _ = _
                              simp only [Act.put, sa_, sb_, sc_, i64_w, i32_w]
                              rfl
                            exact norm_ (by first | (simp only [putAll, Act.put, sa_, sb_, sc_]; done) | (simp only [putAll, Act.put, sa_, sb_, sc_]; rfl)) (hJ1_11 ((ad264, c264), gb267) _ ⟨hHeld, (kr_ HO263), (bk_ BK258), (bk_ BK267), GW267.out, GE267.out, NB258_267.out, NB267_258.out, (bl_ HB)⟩)
                      · skip
                        rintro ⟨gb266, gb267⟩ w24 ⟨hS_, h0_, h1_, h2_, h3_, h4_, h5_, h6_, h7_, h8_, h9_, h10_, h11_, h12_, h13_⟩
                        have n0_ : Aside0 (w24.heap[gb258]? = some (.cells #[.int .i64 0, .int .i64 0] 30 (0, 0))) := ⟨h0_⟩
                        have n1_ : Aside0 (w24.heap[gb266]? = some (.cells #[.int .i64 0, .int .i64 0] 30 (0, 0))) := ⟨h1_⟩
                        have n2_ : Aside0 (w24.heap[gb267]? = some (.cells #[.int .i64 0, .int .i64 0] 30 (0, 0))) := ⟨h2_⟩
                        have n3_ : Aside0 (w.heap.size ≤ gb266) := ⟨h3_⟩
                        have n4_ : Aside0 (w.heap.size ≤ gb266) := ⟨h4_⟩
                        have n5_ : Aside0 (gb258 ≠ gb266) := ⟨h5_⟩
                        have n6_ : Aside0 (gb266 ≠ gb258) := ⟨h6_⟩
                        have n7_ : Aside0 (gb267 ≠ gb266) := ⟨h7_⟩
                        have n8_ : Aside0 (gb266 ≠ gb267) := ⟨h8_⟩
                        have n9_ : Aside0 (w.heap.size ≤ gb267) := ⟨h9_⟩
                        have n10_ : Aside0 (w.heap.size ≤ gb267) := ⟨h10_⟩
                        have n11_ : Aside0 (gb258 ≠ gb267) := ⟨h11_⟩
                        have n12_ : Aside0 (gb267 ≠ gb258) := ⟨h12_⟩
                        have n13_ : Aside0 (Below w.heap.size w w24) := ⟨h13_⟩
                        clear BK258
                        clear HB
                        clear h0_ h1_ h2_ h3_ h4_ h5_ h6_ h7_ h8_ h9_ h10_ h11_ h12_ h13_
                        have BK258 := n0_
                        have BK266 := n1_
                        have BK267 := n2_
                        have GW266 := n3_
                        have GE266 := n4_
                        have NB258_266 := n5_
                        have NB266_258 := n6_
                        have NB267_266 := n7_
                        have NB266_267 := n8_
                        have GW267 := n9_
                        have GE267 := n10_
                        have NB258_267 := n11_
                        have NB267_258 := n12_
                        have HB := n13_
                        clear n0_ n1_ n2_ n3_ n4_ n5_ n6_ n7_ n8_ n9_ n10_ n11_ n12_ n13_
                        have hHeld : w24.cell? (ad265.add (((ji16)).toNat * 2)) = some (.int .i64 ((rd_T30 l0 (ji16)).f0)) ∧ w24.cell? ⟨(ad265.add (((ji16)).toNat * 2)).block, (ad265.add (((ji16)).toNat * 2)).off + 1, none⟩ = some (.int .i64 ((rd_T30 l0 (ji16)).f1)) := hS_
                        refine norm_ (a' := ?_) ?_ ?_
                        rotate_left
                        · simp only [putAll, Act.put, sa_, sb_, sc_]
                          rfl
                        refine one_ (i := 1) (N := some 21) #[true, true, true, false, false, true, true, true, true, true, true, true, false, false] rfl rfl (one_of HT_.out (by kernel_rfl)) (by decide) (fun K hK => ?_)
                        refine goes_ Tryd.func30 (by kernel_rfl) rfl #[.slice (some ad265) l0.length c0] (by rfl) rfl rfl (by (try simp only [List.map_toArray, List.map_cons, List.map_nil]); first | done | rfl | (simp only [List.length_drop, List.length_take]; rfl)) ?_
                        with_reducible refine (impl_sumsOf.calls kj3 _ _ l0 t261 _ ?side1 ?side2 A13.out).mono ?_
                        (case side1 => repeat (first | exact (Kd.C_below HR0.out HB.out) | (with_reducible refine Kd.C_alloc ?_ _) | (with_reducible refine Kd.C_drewN ?_ _) | (with_reducible refine Kd.C_drew ?_)))
                        (case side2 => exact HC0.out)
                        rintro e w25 ⟨v262, rfl, ho0, hb⟩
                        refine ⟨_, rfl, ?_⟩
                        have n0_ := Aside0.mk (Kd.R_lower (Kd.R_newB (Kd.R_newB (Kd.R_newB ho0 (g := gb258) (o := .cells #[.int .i64 0, .int .i64 0] 30 (0, 0)) (bk_ BK258)) (g := gb266) (o := .cells #[.int .i64 0, .int .i64 0] 30 (0, 0)) (bk_ BK266)) (g := gb267) (o := .cells #[.int .i64 0, .int .i64 0] 30 (0, 0)) (bk_ BK267)) (below_size (bl_ HB)))
                        have n1_ := Aside0.mk (blk_below (g := gb258) (o := .cells #[.int .i64 0, .int .i64 0] 30 (0, 0)) (bk_ BK258) hb)
                        have n2_ := Aside0.mk (blk_below (g := gb266) (o := .cells #[.int .i64 0, .int .i64 0] 30 (0, 0)) (bk_ BK266) hb)
                        have n3_ := Aside0.mk (blk_below (g := gb267) (o := .cells #[.int .i64 0, .int .i64 0] 30 (0, 0)) (bk_ BK267) hb)
                        have n4_ := Aside0.mk (below_step (bl_ HB) hb)
                        clear BK258
                        clear BK266
                        clear BK267
                        clear HB
                        have HO263 := n0_
                        have BK258 := n1_
                        have BK266 := n2_
                        have BK267 := n3_
                        have HB := n4_
                        clear n0_ n1_ n2_ n3_ n4_
                        (try clear hb)
                        (try clear hb2)
                        (try clear hk)
                        (try clear hi)
                        (try clear ho0)
                        refine hK.out _ _ ⟨((HB.out.cell (World.block_lt_of_cell? w _ hw265_0)).trans hw265_0), ((HB.out.cell (World.block_lt_of_cell? w _ hw265_1)).trans hw265_1)⟩ (fun hHeld => ?_)
                        clear hK K
                        obtain ⟨A_ad, c264, e_ad⟩ := Kd.R_slice HO263.out
                        subst e_ad
                        obtain ⟨ad264, e_ad, hx264_0, hx264_1⟩ := at_T30 (Kd.R_reads' HO263.out).2.2 a2 (of_eq_true p264) (of_eq_true q264)
                        cases e_ad
                        refine up_ (S' := fun w' => w'.cell? (ad265.add (((ji16)).toNat * 2)) = some (.int .i64 ((rd_T30 l0 (ji16)).f0)) ∧ w'.cell? ⟨(ad265.add (((ji16)).toNat * 2)).block, (ad265.add (((ji16)).toNat * 2)).off + 1, none⟩ = some (.int .i64 ((rd_T30 l0 (ji16)).f1)) ∧ w'.cell? (ad264.add ((a2).toNat * 2)) = some (.int .i64 ((rd_T30 t261 a2).f0)) ∧ w'.cell? ⟨(ad264.add ((a2).toNat * 2)).block, (ad264.add ((a2).toNat * 2)).off + 1, none⟩ = some (.int .i64 ((rd_T30 t261 a2).f1))) (fun _ h_ => ⟨h_.1, h_.2.1⟩) _ _ _ _ ⟨hHeld.1, hHeld.2, hx264_0, hx264_1⟩ ?_
                        have hHeld := And.intro hHeld.1 (And.intro hHeld.2 (And.intro hx264_0 hx264_1))
                        skip
                        refine norm_ (a' := ?_) ?_ ?_
                        rotate_left
                        · show Act.put _ (some 21) _ = _
                          simp only [Act.put, sa_, sb_, sc_, i64_w, i32_w]
                          rfl
                        refine pure_ (i := 3) (N := some 23) (v := ?_) (a' := ?_) #[true, true, true, true, false, true, true, true, true, true, true, true, false, false] rfl rfl (any_of HT_.out (by kernel_rfl)) (fun _ _ _ h => h) (Or.inl ⟨by rfl, ?_⟩) ?_ ?_
                        rotate_left
                        · intro w'
                          go_simp
                          with_reducible rfl
                        rotate_left
                        · simp only [Act.put, sa_, sb_, sc_, i64_w, i32_w]
                          rfl
                        refine take_ (i := 4) (N := some 24) (v := ?_) (a' := ?_) #[true, true, true, true, true, true, true, true, true, true, true, true, false, false] rfl rfl (take_ofW HT_.out HW_.out (by kernel_rfl)) (fun _ _ _ h => h) (Or.inl ⟨by rfl, ?_⟩) hHeld ?_ ?_
                        rotate_left
                        · rintro w' ⟨s0, s1, s2, s3⟩
                          go_simp
                          with_reducible rfl
                        rotate_left
                        · simp only [Act.put, sa_, sb_, sc_, i64_w, i32_w]
                          rfl
                        exact norm_ (by first | (simp only [putAll, Act.put, sa_, sb_, sc_]; done) | (simp only [putAll, Act.put, sa_, sb_, sc_]; rfl)) (hJ1_10_11 ((ad264, c264), gb266, gb267) _ ⟨hHeld, (by (with_reducible repeat (first | apply Kd.R_alloc | apply Kd.R_drewN | apply Kd.R_drew)); exact Kd.R_mono HO263.out (fun _ hk => ⟨hk.1.1.2, ⟨hk.1.2, hk.2⟩⟩)), (bk_ BK258), (bk_ BK266), (bk_ BK267), GW266.out, GE266.out, NB258_266.out, NB266_258.out, NB267_266.out, NB266_267.out, GW267.out, GE267.out, NB258_267.out, NB267_258.out, (bl_ HB)⟩)
                    · skip
                      rintro ⟨⟨ad264, c264⟩, gb267⟩ w24 ⟨hS_, h0_, h1_, h2_, h3_, h4_, h5_, h6_, h7_⟩
                      have n0_ : Aside0 (Kd.R k30 30 w24 w.heap.size (fun k_ => k_ ≠ gb258 ∧ k_ ≠ gb267) (.slice (some ad264) t261.length c264) t261) := ⟨h0_⟩
                      have n1_ : Aside0 (w24.heap[gb258]? = some (.cells #[.int .i64 0, .int .i64 0] 30 (0, 0))) := ⟨h1_⟩
                      have n2_ : Aside0 (w24.heap[gb267]? = some (.cells #[.int .i64 0, .int .i64 0] 30 (0, 0))) := ⟨h2_⟩
                      have n3_ : Aside0 (w.heap.size ≤ gb267) := ⟨h3_⟩
                      have n4_ : Aside0 (w.heap.size ≤ gb267) := ⟨h4_⟩
                      have n5_ : Aside0 (gb258 ≠ gb267) := ⟨h5_⟩
                      have n6_ : Aside0 (gb267 ≠ gb258) := ⟨h6_⟩
                      have n7_ : Aside0 (Below w.heap.size w w24) := ⟨h7_⟩
                      clear BK258
                      clear HB
                      clear h0_ h1_ h2_ h3_ h4_ h5_ h6_ h7_
                      have HO263 := n0_
                      have BK258 := n1_
                      have BK267 := n2_
                      have GW267 := n3_
                      have GE267 := n4_
                      have NB258_267 := n5_
                      have NB267_258 := n6_
                      have HB := n7_
                      clear n0_ n1_ n2_ n3_ n4_ n5_ n6_ n7_
                      have hHeld : w24.cell? (ad265.add (((ji16)).toNat * 2)) = some (.int .i64 ((rd_T30 l0 (ji16)).f0)) ∧ w24.cell? ⟨(ad265.add (((ji16)).toNat * 2)).block, (ad265.add (((ji16)).toNat * 2)).off + 1, none⟩ = some (.int .i64 ((rd_T30 l0 (ji16)).f1)) ∧ w24.cell? (ad264.add ((a2).toNat * 2)) = some (.int .i64 ((rd_T30 t261 a2).f0)) ∧ w24.cell? ⟨(ad264.add ((a2).toNat * 2)).block, (ad264.add ((a2).toNat * 2)).off + 1, none⟩ = some (.int .i64 ((rd_T30 t261 a2).f1)) := hS_
                      refine norm_ (a' := ?_) ?_ ?_
                      rotate_left
                      · simp only [putAll, Act.put, sa_, sb_, sc_]
                        rfl
                      refine one_ (i := 10) (N := some 8) #[true, true, true, true, true, true, true, true, true, true, true, true, false, false] rfl rfl (one_of HT_.out (by kernel_rfl)) (by decide) (fun K hK => ?_)
                      refine box_step ?hg (N := 8) ?hd (cs := #[.int .i64 0, .int .i64 0]) (t := 30) ?hr ?_; (case hd => rfl); (case hg => rfl); (case hr => first | (go_simp; done) | (go_simp; rfl))
                      intro gb266 hg w25 hbox hb
                      have HS2_ := (hb.cell (World.block_lt_of_cell? _ _ (hHeld.2.2.1))).trans (hHeld.2.2.1)
                      have HS3_ := (hb.cell (World.block_lt_of_cell? _ _ (hHeld.2.2.2))).trans (hHeld.2.2.2)
                      have n0_ := Aside0.mk (Kd.R_below (Kd.R_elderB (kr_ HO263) gb266 (Nat.le_of_eq hg.symm)) hb)
                      have n1_ := Aside0.mk (blk_below (g := gb258) (o := .cells #[.int .i64 0, .int .i64 0] 30 (0, 0)) (bk_ BK258) hb)
                      have n2_ := Aside0.mk (blk_below (g := gb267) (o := .cells #[.int .i64 0, .int .i64 0] 30 (0, 0)) (bk_ BK267) hb)
                      have n3_ := Aside0.mk (below_step (bl_ HB) hb)
                      have n4_ := Aside0.mk (hbox)
                      have n5_ := Aside0.mk ((by rw [hg]; exact (below_size (bl_ HB)) : w.heap.size ≤ gb266))
                      have n6_ := Aside0.mk ((by rw [hg]; exact (below_size (bl_ HB)) : w.heap.size ≤ gb266))
                      have n7_ := Aside0.mk ((by rw [hg]; exact Nat.ne_of_lt (blk_lt (g := gb258) (o := .cells #[.int .i64 0, .int .i64 0] 30 (0, 0)) (bk_ BK258)) : gb258 ≠ gb266))
                      have n8_ := Aside0.mk ((by rw [hg]; exact Nat.ne_of_gt (blk_lt (g := gb258) (o := .cells #[.int .i64 0, .int .i64 0] 30 (0, 0)) (bk_ BK258)) : gb266 ≠ gb258))
                      have n9_ := Aside0.mk ((by rw [hg]; exact Nat.ne_of_lt (blk_lt (g := gb267) (o := .cells #[.int .i64 0, .int .i64 0] 30 (0, 0)) (bk_ BK267)) : gb267 ≠ gb266))
                      have n10_ := Aside0.mk ((by rw [hg]; exact Nat.ne_of_gt (blk_lt (g := gb267) (o := .cells #[.int .i64 0, .int .i64 0] 30 (0, 0)) (bk_ BK267)) : gb266 ≠ gb267))
                      clear HO263
                      clear BK258
                      clear BK267
                      clear HB
                      have HO263 := n0_
                      have BK258 := n1_
                      have BK267 := n2_
                      have HB := n3_
                      have BK266 := n4_
                      have GW266 := n5_
                      have GE266 := n6_
                      have NB258_266 := n7_
                      have NB266_258 := n8_
                      have NB267_266 := n9_
                      have NB266_267 := n10_
                      clear n0_ n1_ n2_ n3_ n4_ n5_ n6_ n7_ n8_ n9_ n10_
                      clear hb hbox hg
                      refine hK.out _ _ ⟨((HB.out.cell (World.block_lt_of_cell? w _ hw265_0)).trans hw265_0), ((HB.out.cell (World.block_lt_of_cell? w _ hw265_1)).trans hw265_1), HS2_, HS3_⟩ (fun hHeld => ?_)
                      clear hK K
                      refine norm_ (a' := ?_) ?_ ?_
                      rotate_left
                      · show Act.put _ (some 8) _ = _
                        simp only [Act.put, sa_, sb_, sc_, i64_w, i32_w]
                        rfl
                      exact norm_ (by first | (simp only [putAll, Act.put, sa_, sb_, sc_]; done) | (simp only [putAll, Act.put, sa_, sb_, sc_]; rfl)) (hJ1_10_11 ((ad264, c264), gb266, gb267) _ ⟨hHeld, (by (with_reducible repeat (first | apply Kd.R_alloc | apply Kd.R_drewN | apply Kd.R_drew)); exact Kd.R_mono HO263.out (fun _ hk => ⟨hk.1.1, ⟨hk.2, hk.1.2⟩⟩)), (bk_ BK258), (bk_ BK266), (bk_ BK267), GW266.out, GE266.out, NB258_266.out, NB266_258.out, NB267_266.out, NB266_267.out, GW267.out, GE267.out, NB258_267.out, NB267_258.out, (bl_ HB)⟩)
                  · skip
                    rintro ⟨⟨ad264, c264⟩, gb266⟩ w24 ⟨hS_, h0_, h1_, h2_, h3_, h4_, h5_, h6_, h7_⟩
                    have n0_ : Aside0 (Kd.R k30 30 w24 w.heap.size (fun k_ => k_ ≠ gb258 ∧ k_ ≠ gb266) (.slice (some ad264) t261.length c264) t261) := ⟨h0_⟩
                    have n1_ : Aside0 (w24.heap[gb258]? = some (.cells #[.int .i64 0, .int .i64 0] 30 (0, 0))) := ⟨h1_⟩
                    have n2_ : Aside0 (w24.heap[gb266]? = some (.cells #[.int .i64 0, .int .i64 0] 30 (0, 0))) := ⟨h2_⟩
                    have n3_ : Aside0 (w.heap.size ≤ gb266) := ⟨h3_⟩
                    have n4_ : Aside0 (w.heap.size ≤ gb266) := ⟨h4_⟩
                    have n5_ : Aside0 (gb258 ≠ gb266) := ⟨h5_⟩
                    have n6_ : Aside0 (gb266 ≠ gb258) := ⟨h6_⟩
                    have n7_ : Aside0 (Below w.heap.size w w24) := ⟨h7_⟩
                    clear BK258
                    clear HB
                    clear h0_ h1_ h2_ h3_ h4_ h5_ h6_ h7_
                    have HO263 := n0_
                    have BK258 := n1_
                    have BK266 := n2_
                    have GW266 := n3_
                    have GE266 := n4_
                    have NB258_266 := n5_
                    have NB266_258 := n6_
                    have HB := n7_
                    clear n0_ n1_ n2_ n3_ n4_ n5_ n6_ n7_
                    have hHeld : w24.cell? (ad265.add (((ji16)).toNat * 2)) = some (.int .i64 ((rd_T30 l0 (ji16)).f0)) ∧ w24.cell? ⟨(ad265.add (((ji16)).toNat * 2)).block, (ad265.add (((ji16)).toNat * 2)).off + 1, none⟩ = some (.int .i64 ((rd_T30 l0 (ji16)).f1)) ∧ w24.cell? (ad264.add ((a2).toNat * 2)) = some (.int .i64 ((rd_T30 t261 a2).f0)) ∧ w24.cell? ⟨(ad264.add ((a2).toNat * 2)).block, (ad264.add ((a2).toNat * 2)).off + 1, none⟩ = some (.int .i64 ((rd_T30 t261 a2).f1)) := hS_
                    refine norm_ (a' := ?_) ?_ ?_
                    rotate_left
                    · simp only [putAll, Act.put, sa_, sb_, sc_]
                      rfl
                    refine one_ (i := 11) (N := some 9) #[true, true, true, true, true, true, true, true, true, true, true, true, false, false] rfl rfl (one_of HT_.out (by kernel_rfl)) (by decide) (fun K hK => ?_)
                    refine box_step ?hg (N := 9) ?hd (cs := #[.int .i64 0, .int .i64 0]) (t := 30) ?hr ?_; (case hd => rfl); (case hg => rfl); (case hr => first | (go_simp; done) | (go_simp; rfl))
                    intro gb267 hg w25 hbox hb
                    have HS2_ := (hb.cell (World.block_lt_of_cell? _ _ (hHeld.2.2.1))).trans (hHeld.2.2.1)
                    have HS3_ := (hb.cell (World.block_lt_of_cell? _ _ (hHeld.2.2.2))).trans (hHeld.2.2.2)
                    have n0_ := Aside0.mk (Kd.R_below (Kd.R_elderB (kr_ HO263) gb267 (Nat.le_of_eq hg.symm)) hb)
                    have n1_ := Aside0.mk (blk_below (g := gb258) (o := .cells #[.int .i64 0, .int .i64 0] 30 (0, 0)) (bk_ BK258) hb)
                    have n2_ := Aside0.mk (blk_below (g := gb266) (o := .cells #[.int .i64 0, .int .i64 0] 30 (0, 0)) (bk_ BK266) hb)
                    have n3_ := Aside0.mk (below_step (bl_ HB) hb)
                    have n4_ := Aside0.mk (hbox)
                    have n5_ := Aside0.mk ((by rw [hg]; exact (below_size (bl_ HB)) : w.heap.size ≤ gb267))
                    have n6_ := Aside0.mk ((by rw [hg]; exact (below_size (bl_ HB)) : w.heap.size ≤ gb267))
                    have n7_ := Aside0.mk ((by rw [hg]; exact Nat.ne_of_lt (blk_lt (g := gb258) (o := .cells #[.int .i64 0, .int .i64 0] 30 (0, 0)) (bk_ BK258)) : gb258 ≠ gb267))
                    have n8_ := Aside0.mk ((by rw [hg]; exact Nat.ne_of_gt (blk_lt (g := gb258) (o := .cells #[.int .i64 0, .int .i64 0] 30 (0, 0)) (bk_ BK258)) : gb267 ≠ gb258))
                    have n9_ := Aside0.mk ((by rw [hg]; exact Nat.ne_of_lt (blk_lt (g := gb266) (o := .cells #[.int .i64 0, .int .i64 0] 30 (0, 0)) (bk_ BK266)) : gb266 ≠ gb267))
                    have n10_ := Aside0.mk ((by rw [hg]; exact Nat.ne_of_gt (blk_lt (g := gb266) (o := .cells #[.int .i64 0, .int .i64 0] 30 (0, 0)) (bk_ BK266)) : gb267 ≠ gb266))
                    clear HO263
                    clear BK258
                    clear BK266
                    clear HB
                    have HO263 := n0_
                    have BK258 := n1_
                    have BK266 := n2_
                    have HB := n3_
                    have BK267 := n4_
                    have GW267 := n5_
                    have GE267 := n6_
                    have NB258_267 := n7_
                    have NB267_258 := n8_
                    have NB266_267 := n9_
                    have NB267_266 := n10_
                    clear n0_ n1_ n2_ n3_ n4_ n5_ n6_ n7_ n8_ n9_ n10_
                    clear hb hbox hg
                    refine hK.out _ _ ⟨((HB.out.cell (World.block_lt_of_cell? w _ hw265_0)).trans hw265_0), ((HB.out.cell (World.block_lt_of_cell? w _ hw265_1)).trans hw265_1), HS2_, HS3_⟩ (fun hHeld => ?_)
                    clear hK K
                    refine norm_ (a' := ?_) ?_ ?_
                    rotate_left
                    · show Act.put _ (some 9) _ = _
                      simp only [Act.put, sa_, sb_, sc_, i64_w, i32_w]
                      rfl
                    exact norm_ (by first | (simp only [putAll, Act.put, sa_, sb_, sc_]; done) | (simp only [putAll, Act.put, sa_, sb_, sc_]; rfl)) (hJ1_10_11 ((ad264, c264), gb266, gb267) _ ⟨hHeld, (by (with_reducible repeat (first | apply Kd.R_alloc | apply Kd.R_drewN | apply Kd.R_drew)); exact Kd.R_mono HO263.out (fun _ hk => ⟨hk.1.1, ⟨hk.1.2, hk.2⟩⟩)), (bk_ BK258), (bk_ BK266), (bk_ BK267), GW266.out, GE266.out, NB258_266.out, NB266_258.out, NB267_266.out, NB266_267.out, GW267.out, GE267.out, NB258_267.out, NB267_258.out, (bl_ HB)⟩)
                rintro ⟨⟨ad264, c264⟩, gb266, gb267⟩ w25 ⟨hS_, h0_, h1_, h2_, h3_, h4_, h5_, h6_, h7_, h8_, h9_, h10_, h11_, h12_, h13_, h14_⟩
                have n0_ : Aside0 (Kd.R k30 30 w25 w.heap.size (fun k_ => k_ ≠ gb258 ∧ k_ ≠ gb266 ∧ k_ ≠ gb267) (.slice (some ad264) t261.length c264) t261) := ⟨h0_⟩
                have n1_ : Aside0 (w25.heap[gb258]? = some (.cells #[.int .i64 0, .int .i64 0] 30 (0, 0))) := ⟨h1_⟩
                have n2_ : Aside0 (w25.heap[gb266]? = some (.cells #[.int .i64 0, .int .i64 0] 30 (0, 0))) := ⟨h2_⟩
                have n3_ : Aside0 (w25.heap[gb267]? = some (.cells #[.int .i64 0, .int .i64 0] 30 (0, 0))) := ⟨h3_⟩
                have n4_ : Aside0 (w.heap.size ≤ gb266) := ⟨h4_⟩
                have n5_ : Aside0 (w.heap.size ≤ gb266) := ⟨h5_⟩
                have n6_ : Aside0 (gb258 ≠ gb266) := ⟨h6_⟩
                have n7_ : Aside0 (gb266 ≠ gb258) := ⟨h7_⟩
                have n8_ : Aside0 (gb267 ≠ gb266) := ⟨h8_⟩
                have n9_ : Aside0 (gb266 ≠ gb267) := ⟨h9_⟩
                have n10_ : Aside0 (w.heap.size ≤ gb267) := ⟨h10_⟩
                have n11_ : Aside0 (w.heap.size ≤ gb267) := ⟨h11_⟩
                have n12_ : Aside0 (gb258 ≠ gb267) := ⟨h12_⟩
                have n13_ : Aside0 (gb267 ≠ gb258) := ⟨h13_⟩
                have n14_ : Aside0 (Below w.heap.size w w25) := ⟨h14_⟩
                clear BK258
                clear HB
                clear h0_ h1_ h2_ h3_ h4_ h5_ h6_ h7_ h8_ h9_ h10_ h11_ h12_ h13_ h14_
                have HO263 := n0_
                have BK258 := n1_
                have BK266 := n2_
                have BK267 := n3_
                have GW266 := n4_
                have GE266 := n5_
                have NB258_266 := n6_
                have NB266_258 := n7_
                have NB267_266 := n8_
                have NB266_267 := n9_
                have GW267 := n10_
                have GE267 := n11_
                have NB258_267 := n12_
                have NB267_258 := n13_
                have HB := n14_
                clear n0_ n1_ n2_ n3_ n4_ n5_ n6_ n7_ n8_ n9_ n10_ n11_ n12_ n13_ n14_
                have hHeld : w25.cell? (ad265.add (((ji16)).toNat * 2)) = some (.int .i64 ((rd_T30 l0 (ji16)).f0)) ∧ w25.cell? ⟨(ad265.add (((ji16)).toNat * 2)).block, (ad265.add (((ji16)).toNat * 2)).off + 1, none⟩ = some (.int .i64 ((rd_T30 l0 (ji16)).f1)) ∧ w25.cell? (ad264.add ((a2).toNat * 2)) = some (.int .i64 ((rd_T30 t261 a2).f0)) ∧ w25.cell? ⟨(ad264.add ((a2).toNat * 2)).block, (ad264.add ((a2).toNat * 2)).off + 1, none⟩ = some (.int .i64 ((rd_T30 t261 a2).f1)) := hS_
                refine norm_ (a' := ?_) ?_ ?_
                rotate_left
                · simp only [putAll, Act.put, sa_, sb_, sc_]
                  rfl
                refine one_ (i := 12) (N := none) #[true, true, true, true, true, true, true, true, true, true, true, true, true, false] rfl rfl (one_of HT_.out (by kernel_rfl)) (by decide) (fun K hK => ?_)
                have hs27 : w25.cell? ⟨gb266, 0, none⟩ = some (.int .i64 0) := (blk_cell BK266.out 0).trans rfl
                have hfs27 := blk_frozen BK266.out 0
                have hns27_0 := NB258_266.out
                have hns27_2 := NB267_266.out
                have hms27_0 := NB266_258.out
                have hms27_2 := NB266_267.out
                have hs28 : w25.cell? ⟨gb266, 1, none⟩ = some (.int .i64 0) := (blk_cell BK266.out 1).trans rfl
                have hfs28 := blk_frozen BK266.out 1
                have hns28_0 := NB258_266.out
                have hns28_2 := NB267_266.out
                have hms28_0 := NB266_258.out
                have hms28_2 := NB266_267.out
                refine skip_ (w1 := ?_) (by rfl) rfl ?_ ?_
                rotate_left
                · go_simp
                  rfl
                refine hK.out _ _ ⟨((cell_far (p := ⟨gb266, _, none⟩) (by first | exact Nat.ne_of_lt (Nat.lt_of_lt_of_le (by have := World.block_lt_of_cell? _ _ hw265_0; first | rwa [add_block] at this | exact this) GW266.out) | (rw [add_block]; exact Nat.ne_of_lt (Nat.lt_of_lt_of_le (by have := World.block_lt_of_cell? _ _ hw265_0; first | rwa [add_block] at this | exact this) GW266.out)) | (show (Addr.add _ _).block ≠ _; rw [add_block]; exact Nat.ne_of_lt (Nat.lt_of_lt_of_le (by have := World.block_lt_of_cell? _ _ hw265_0; first | rwa [add_block] at this | exact this) GW266.out)) | (dsimp only; exact Nat.ne_of_lt (Nat.lt_of_lt_of_le (by have := World.block_lt_of_cell? _ _ hw265_0; first | rwa [add_block] at this | exact this) GW266.out))) _).trans (((cell_far (p := ⟨gb266, _, none⟩) (by first | exact Nat.ne_of_lt (Nat.lt_of_lt_of_le (by have := World.block_lt_of_cell? _ _ hw265_0; first | rwa [add_block] at this | exact this) GW266.out) | (rw [add_block]; exact Nat.ne_of_lt (Nat.lt_of_lt_of_le (by have := World.block_lt_of_cell? _ _ hw265_0; first | rwa [add_block] at this | exact this) GW266.out)) | (show (Addr.add _ _).block ≠ _; rw [add_block]; exact Nat.ne_of_lt (Nat.lt_of_lt_of_le (by have := World.block_lt_of_cell? _ _ hw265_0; first | rwa [add_block] at this | exact this) GW266.out)) | (dsimp only; exact Nat.ne_of_lt (Nat.lt_of_lt_of_le (by have := World.block_lt_of_cell? _ _ hw265_0; first | rwa [add_block] at this | exact this) GW266.out))) _).trans (hHeld.1)))), ((cell_far (p := ⟨gb266, _, none⟩) (by first | exact Nat.ne_of_lt (Nat.lt_of_lt_of_le (by have := World.block_lt_of_cell? _ _ hw265_1; first | rwa [add_block] at this | exact this) GW266.out) | (rw [add_block]; exact Nat.ne_of_lt (Nat.lt_of_lt_of_le (by have := World.block_lt_of_cell? _ _ hw265_1; first | rwa [add_block] at this | exact this) GW266.out)) | (show (Addr.add _ _).block ≠ _; rw [add_block]; exact Nat.ne_of_lt (Nat.lt_of_lt_of_le (by have := World.block_lt_of_cell? _ _ hw265_1; first | rwa [add_block] at this | exact this) GW266.out)) | (dsimp only; exact Nat.ne_of_lt (Nat.lt_of_lt_of_le (by have := World.block_lt_of_cell? _ _ hw265_1; first | rwa [add_block] at this | exact this) GW266.out))) _).trans (((cell_far (p := ⟨gb266, _, none⟩) (by first | exact Nat.ne_of_lt (Nat.lt_of_lt_of_le (by have := World.block_lt_of_cell? _ _ hw265_1; first | rwa [add_block] at this | exact this) GW266.out) | (rw [add_block]; exact Nat.ne_of_lt (Nat.lt_of_lt_of_le (by have := World.block_lt_of_cell? _ _ hw265_1; first | rwa [add_block] at this | exact this) GW266.out)) | (show (Addr.add _ _).block ≠ _; rw [add_block]; exact Nat.ne_of_lt (Nat.lt_of_lt_of_le (by have := World.block_lt_of_cell? _ _ hw265_1; first | rwa [add_block] at this | exact this) GW266.out)) | (dsimp only; exact Nat.ne_of_lt (Nat.lt_of_lt_of_le (by have := World.block_lt_of_cell? _ _ hw265_1; first | rwa [add_block] at this | exact this) GW266.out))) _).trans (hHeld.2.1)))), ((cell_far (p := ⟨gb266, _, none⟩) (by first | exact Kd.own_blk (Kd.R_away HO263.out (fun _ hk => hk.2.1)) | (rw [add_block]; exact Kd.own_blk (Kd.R_away HO263.out (fun _ hk => hk.2.1))) | (show (Addr.add _ _).block ≠ _; rw [add_block]; exact Kd.own_blk (Kd.R_away HO263.out (fun _ hk => hk.2.1))) | (dsimp only; exact Kd.own_blk (Kd.R_away HO263.out (fun _ hk => hk.2.1)))) _).trans (((cell_far (p := ⟨gb266, _, none⟩) (by first | exact Kd.own_blk (Kd.R_away HO263.out (fun _ hk => hk.2.1)) | (rw [add_block]; exact Kd.own_blk (Kd.R_away HO263.out (fun _ hk => hk.2.1))) | (show (Addr.add _ _).block ≠ _; rw [add_block]; exact Kd.own_blk (Kd.R_away HO263.out (fun _ hk => hk.2.1))) | (dsimp only; exact Kd.own_blk (Kd.R_away HO263.out (fun _ hk => hk.2.1)))) _).trans (hHeld.2.2.1)))), ((cell_far (p := ⟨gb266, _, none⟩) (by first | exact Kd.own_blk (Kd.R_away HO263.out (fun _ hk => hk.2.1)) | (rw [add_block]; exact Kd.own_blk (Kd.R_away HO263.out (fun _ hk => hk.2.1))) | (show (Addr.add _ _).block ≠ _; rw [add_block]; exact Kd.own_blk (Kd.R_away HO263.out (fun _ hk => hk.2.1))) | (dsimp only; exact Kd.own_blk (Kd.R_away HO263.out (fun _ hk => hk.2.1)))) _).trans (((cell_far (p := ⟨gb266, _, none⟩) (by first | exact Kd.own_blk (Kd.R_away HO263.out (fun _ hk => hk.2.1)) | (rw [add_block]; exact Kd.own_blk (Kd.R_away HO263.out (fun _ hk => hk.2.1))) | (show (Addr.add _ _).block ≠ _; rw [add_block]; exact Kd.own_blk (Kd.R_away HO263.out (fun _ hk => hk.2.1))) | (dsimp only; exact Kd.own_blk (Kd.R_away HO263.out (fun _ hk => hk.2.1)))) _).trans (hHeld.2.2.2))))⟩ (fun hHeld => ?_)
                clear hK K
                refine one_ (i := 13) (N := none) #[true, true, true, true, true, true, true, true, true, true, true, true, true, true] rfl rfl (one_of HT_.out (by kernel_rfl)) (by decide) (fun K hK => ?_)
                have hs29 : w25.cell? ⟨gb267, 0, none⟩ = some (.int .i64 0) := (blk_cell BK267.out 0).trans rfl
                have hfs29 := blk_frozen BK267.out 0
                have hns29_0 := NB258_267.out
                have hns29_1 := NB266_267.out
                have hms29_0 := NB267_258.out
                have hms29_1 := NB267_266.out
                have hs30 : w25.cell? ⟨gb267, 1, none⟩ = some (.int .i64 0) := (blk_cell BK267.out 1).trans rfl
                have hfs30 := blk_frozen BK267.out 1
                have hns30_0 := NB258_267.out
                have hns30_1 := NB266_267.out
                have hms30_0 := NB267_258.out
                have hms30_1 := NB267_266.out
                refine skip_ (w1 := ?_) (by rfl) rfl ?_ ?_
                rotate_left
                · go_simp
                  rfl
                refine hK.out _ _ ⟨((cell_far (p := ⟨gb267, _, none⟩) (by first | exact Nat.ne_of_lt (Nat.lt_of_lt_of_le (by have := World.block_lt_of_cell? _ _ hw265_0; first | rwa [add_block] at this | exact this) GW267.out) | (rw [add_block]; exact Nat.ne_of_lt (Nat.lt_of_lt_of_le (by have := World.block_lt_of_cell? _ _ hw265_0; first | rwa [add_block] at this | exact this) GW267.out)) | (show (Addr.add _ _).block ≠ _; rw [add_block]; exact Nat.ne_of_lt (Nat.lt_of_lt_of_le (by have := World.block_lt_of_cell? _ _ hw265_0; first | rwa [add_block] at this | exact this) GW267.out)) | (dsimp only; exact Nat.ne_of_lt (Nat.lt_of_lt_of_le (by have := World.block_lt_of_cell? _ _ hw265_0; first | rwa [add_block] at this | exact this) GW267.out))) _).trans (((cell_far (p := ⟨gb267, _, none⟩) (by first | exact Nat.ne_of_lt (Nat.lt_of_lt_of_le (by have := World.block_lt_of_cell? _ _ hw265_0; first | rwa [add_block] at this | exact this) GW267.out) | (rw [add_block]; exact Nat.ne_of_lt (Nat.lt_of_lt_of_le (by have := World.block_lt_of_cell? _ _ hw265_0; first | rwa [add_block] at this | exact this) GW267.out)) | (show (Addr.add _ _).block ≠ _; rw [add_block]; exact Nat.ne_of_lt (Nat.lt_of_lt_of_le (by have := World.block_lt_of_cell? _ _ hw265_0; first | rwa [add_block] at this | exact this) GW267.out)) | (dsimp only; exact Nat.ne_of_lt (Nat.lt_of_lt_of_le (by have := World.block_lt_of_cell? _ _ hw265_0; first | rwa [add_block] at this | exact this) GW267.out))) _).trans (hHeld.1)))), ((cell_far (p := ⟨gb267, _, none⟩) (by first | exact Nat.ne_of_lt (Nat.lt_of_lt_of_le (by have := World.block_lt_of_cell? _ _ hw265_1; first | rwa [add_block] at this | exact this) GW267.out) | (rw [add_block]; exact Nat.ne_of_lt (Nat.lt_of_lt_of_le (by have := World.block_lt_of_cell? _ _ hw265_1; first | rwa [add_block] at this | exact this) GW267.out)) | (show (Addr.add _ _).block ≠ _; rw [add_block]; exact Nat.ne_of_lt (Nat.lt_of_lt_of_le (by have := World.block_lt_of_cell? _ _ hw265_1; first | rwa [add_block] at this | exact this) GW267.out)) | (dsimp only; exact Nat.ne_of_lt (Nat.lt_of_lt_of_le (by have := World.block_lt_of_cell? _ _ hw265_1; first | rwa [add_block] at this | exact this) GW267.out))) _).trans (((cell_far (p := ⟨gb267, _, none⟩) (by first | exact Nat.ne_of_lt (Nat.lt_of_lt_of_le (by have := World.block_lt_of_cell? _ _ hw265_1; first | rwa [add_block] at this | exact this) GW267.out) | (rw [add_block]; exact Nat.ne_of_lt (Nat.lt_of_lt_of_le (by have := World.block_lt_of_cell? _ _ hw265_1; first | rwa [add_block] at this | exact this) GW267.out)) | (show (Addr.add _ _).block ≠ _; rw [add_block]; exact Nat.ne_of_lt (Nat.lt_of_lt_of_le (by have := World.block_lt_of_cell? _ _ hw265_1; first | rwa [add_block] at this | exact this) GW267.out)) | (dsimp only; exact Nat.ne_of_lt (Nat.lt_of_lt_of_le (by have := World.block_lt_of_cell? _ _ hw265_1; first | rwa [add_block] at this | exact this) GW267.out))) _).trans (hHeld.2.1)))), ((cell_far (p := ⟨gb267, _, none⟩) (by first | exact Kd.own_blk (Kd.R_away HO263.out (fun _ hk => hk.2.2)) | (rw [add_block]; exact Kd.own_blk (Kd.R_away HO263.out (fun _ hk => hk.2.2))) | (show (Addr.add _ _).block ≠ _; rw [add_block]; exact Kd.own_blk (Kd.R_away HO263.out (fun _ hk => hk.2.2))) | (dsimp only; exact Kd.own_blk (Kd.R_away HO263.out (fun _ hk => hk.2.2)))) _).trans (((cell_far (p := ⟨gb267, _, none⟩) (by first | exact Kd.own_blk (Kd.R_away HO263.out (fun _ hk => hk.2.2)) | (rw [add_block]; exact Kd.own_blk (Kd.R_away HO263.out (fun _ hk => hk.2.2))) | (show (Addr.add _ _).block ≠ _; rw [add_block]; exact Kd.own_blk (Kd.R_away HO263.out (fun _ hk => hk.2.2))) | (dsimp only; exact Kd.own_blk (Kd.R_away HO263.out (fun _ hk => hk.2.2)))) _).trans (hHeld.2.2.1)))), ((cell_far (p := ⟨gb267, _, none⟩) (by first | exact Kd.own_blk (Kd.R_away HO263.out (fun _ hk => hk.2.2)) | (rw [add_block]; exact Kd.own_blk (Kd.R_away HO263.out (fun _ hk => hk.2.2))) | (show (Addr.add _ _).block ≠ _; rw [add_block]; exact Kd.own_blk (Kd.R_away HO263.out (fun _ hk => hk.2.2))) | (dsimp only; exact Kd.own_blk (Kd.R_away HO263.out (fun _ hk => hk.2.2)))) _).trans (((cell_far (p := ⟨gb267, _, none⟩) (by first | exact Kd.own_blk (Kd.R_away HO263.out (fun _ hk => hk.2.2)) | (rw [add_block]; exact Kd.own_blk (Kd.R_away HO263.out (fun _ hk => hk.2.2))) | (show (Addr.add _ _).block ≠ _; rw [add_block]; exact Kd.own_blk (Kd.R_away HO263.out (fun _ hk => hk.2.2))) | (dsimp only; exact Kd.own_blk (Kd.R_away HO263.out (fun _ hk => hk.2.2)))) _).trans (hHeld.2.2.2))))⟩ (fun hHeld => ?_)
                clear hK K
                refine done_ (done_of HT_.out (by kernel_rfl)) ?_
                try go_wp2
                have n0_ : Aside0 (Kd.R k30 30 ((((w25.setCell ⟨gb266, 0, none⟩ (.int .i64 ((rd_T30 t261 a2).f0))).setCell ⟨gb266, 1, none⟩ (.int .i64 ((rd_T30 t261 a2).f1))).setCell ⟨gb267, 0, none⟩ (.int .i64 ((rd_T30 l0 (ji16)).f0))).setCell ⟨gb267, 1, none⟩ (.int .i64 ((rd_T30 l0 (ji16)).f1))) w.heap.size (fun k_ => k_ ≠ gb258 ∧ k_ ≠ gb266 ∧ k_ ≠ gb267) (.slice (some ad264) t261.length c264) t261) := ⟨by (with_reducible repeat (first | apply Kd.R_alloc | apply Kd.R_drewN | apply Kd.R_drew)); exact Kd.R_mono (Kd.R_far (p := ⟨gb267, 1, none⟩) (Kd.R_far (p := ⟨gb267, 0, none⟩) (Kd.R_far (p := ⟨gb266, 1, none⟩) (Kd.R_far (p := ⟨gb266, 0, none⟩) (Kd.R_mono (Kd.R_mono HO263.out (fun k_ hk => (⟨hk, hk.2.1⟩ : _ ∧ k_ ≠ gb266))) (fun k_ hk => (⟨hk, hk.1.2.2⟩ : _ ∧ k_ ≠ gb267))) (fun _ hk => hk.1.2) (.int .i64 ((rd_T30 t261 a2).f0))) (fun _ hk => hk.1.2) (.int .i64 ((rd_T30 t261 a2).f1))) (fun _ hk => hk.2) (.int .i64 ((rd_T30 l0 (ji16)).f0))) (fun _ hk => hk.2) (.int .i64 ((rd_T30 l0 (ji16)).f1))) (fun _ hk => ⟨hk.1.1.1, ⟨hk.1.1.2.1, hk.1.1.2.2⟩⟩)⟩
                have n1_ : Aside0 (((((w25.setCell ⟨gb266, 0, none⟩ (.int .i64 ((rd_T30 t261 a2).f0))).setCell ⟨gb266, 1, none⟩ (.int .i64 ((rd_T30 t261 a2).f1))).setCell ⟨gb267, 0, none⟩ (.int .i64 ((rd_T30 l0 (ji16)).f0))).setCell ⟨gb267, 1, none⟩ (.int .i64 ((rd_T30 l0 (ji16)).f1))).heap[gb258]? = some (.cells #[.int .i64 0, .int .i64 0] 30 (0, 0))) := ⟨by (with_reducible repeat (first | refine blk_drewN ?_ _ | refine blk_drew ?_ | refine blk_alloc ?_ _)); refine blk_far ?_ NB258_267.out _; (with_reducible repeat (first | refine blk_drewN ?_ _ | refine blk_drew ?_ | refine blk_alloc ?_ _)); refine blk_far ?_ NB258_267.out _; (with_reducible repeat (first | refine blk_drewN ?_ _ | refine blk_drew ?_ | refine blk_alloc ?_ _)); refine blk_far ?_ NB258_266.out _; (with_reducible repeat (first | refine blk_drewN ?_ _ | refine blk_drew ?_ | refine blk_alloc ?_ _)); refine blk_far ?_ NB258_266.out _; (with_reducible repeat (first | refine blk_drewN ?_ _ | refine blk_drew ?_ | refine blk_alloc ?_ _)); exact BK258.out⟩
                have n2_ : Aside0 (((((w25.setCell ⟨gb266, 0, none⟩ (.int .i64 ((rd_T30 t261 a2).f0))).setCell ⟨gb266, 1, none⟩ (.int .i64 ((rd_T30 t261 a2).f1))).setCell ⟨gb267, 0, none⟩ (.int .i64 ((rd_T30 l0 (ji16)).f0))).setCell ⟨gb267, 1, none⟩ (.int .i64 ((rd_T30 l0 (ji16)).f1))).heap[gb266]? = some (.cells #[.int .i64 ((rd_T30 t261 a2).f0), .int .i64 ((rd_T30 t261 a2).f1)] 30 (0, 0))) := ⟨by (with_reducible repeat (first | refine blk_drewN ?_ _ | refine blk_drew ?_ | refine blk_alloc ?_ _)); refine blk_far ?_ NB266_267.out _; (with_reducible repeat (first | refine blk_drewN ?_ _ | refine blk_drew ?_ | refine blk_alloc ?_ _)); refine blk_far ?_ NB266_267.out _; (with_reducible repeat (first | refine blk_drewN ?_ _ | refine blk_drew ?_ | refine blk_alloc ?_ _)); refine blk_put (cs := #[.int .i64 ((rd_T30 t261 a2).f0), .int .i64 0]) ?_ 1 _ rfl; (with_reducible repeat (first | refine blk_drewN ?_ _ | refine blk_drew ?_ | refine blk_alloc ?_ _)); refine blk_put (cs := #[.int .i64 0, .int .i64 0]) ?_ 0 _ rfl; (with_reducible repeat (first | refine blk_drewN ?_ _ | refine blk_drew ?_ | refine blk_alloc ?_ _)); exact BK266.out⟩
                have n3_ : Aside0 (((((w25.setCell ⟨gb266, 0, none⟩ (.int .i64 ((rd_T30 t261 a2).f0))).setCell ⟨gb266, 1, none⟩ (.int .i64 ((rd_T30 t261 a2).f1))).setCell ⟨gb267, 0, none⟩ (.int .i64 ((rd_T30 l0 (ji16)).f0))).setCell ⟨gb267, 1, none⟩ (.int .i64 ((rd_T30 l0 (ji16)).f1))).heap[gb267]? = some (.cells #[.int .i64 ((rd_T30 l0 (ji16)).f0), .int .i64 ((rd_T30 l0 (ji16)).f1)] 30 (0, 0))) := ⟨by (with_reducible repeat (first | refine blk_drewN ?_ _ | refine blk_drew ?_ | refine blk_alloc ?_ _)); refine blk_put (cs := #[.int .i64 ((rd_T30 l0 (ji16)).f0), .int .i64 0]) ?_ 1 _ rfl; (with_reducible repeat (first | refine blk_drewN ?_ _ | refine blk_drew ?_ | refine blk_alloc ?_ _)); refine blk_put (cs := #[.int .i64 0, .int .i64 0]) ?_ 0 _ rfl; (with_reducible repeat (first | refine blk_drewN ?_ _ | refine blk_drew ?_ | refine blk_alloc ?_ _)); refine blk_far ?_ NB267_266.out _; (with_reducible repeat (first | refine blk_drewN ?_ _ | refine blk_drew ?_ | refine blk_alloc ?_ _)); refine blk_far ?_ NB267_266.out _; (with_reducible repeat (first | refine blk_drewN ?_ _ | refine blk_drew ?_ | refine blk_alloc ?_ _)); exact BK267.out⟩
                have n4_ : Aside0 (Below w.heap.size w ((((w25.setCell ⟨gb266, 0, none⟩ (.int .i64 ((rd_T30 t261 a2).f0))).setCell ⟨gb266, 1, none⟩ (.int .i64 ((rd_T30 t261 a2).f1))).setCell ⟨gb267, 0, none⟩ (.int .i64 ((rd_T30 l0 (ji16)).f0))).setCell ⟨gb267, 1, none⟩ (.int .i64 ((rd_T30 l0 (ji16)).f1)))) := ⟨by repeat (first | (with_reducible first | exact HB.out | apply below_alloc | apply pw_below_drewN | apply below_drew1 | refine below_set ?_ GE258.out | refine below_set ?_ GE266.out | refine below_set ?_ GE267.out) | exact HB.out)⟩
                (try clear HO263)
                (try clear BK258)
                (try clear BK266)
                (try clear BK267)
                (try clear HB)
                generalize ((((w25.setCell ⟨gb266, 0, none⟩ (.int .i64 ((rd_T30 t261 a2).f0))).setCell ⟨gb266, 1, none⟩ (.int .i64 ((rd_T30 t261 a2).f1))).setCell ⟨gb267, 0, none⟩ (.int .i64 ((rd_T30 l0 (ji16)).f0))).setCell ⟨gb267, 1, none⟩ (.int .i64 ((rd_T30 l0 (ji16)).f1))) = w31 at n0_ n1_ n2_ n3_ n4_ ⊢
                have HO263 := n0_
                have BK258 := n1_
                have BK266 := n2_
                have BK267 := n3_
                have HB := n4_
                clear n0_ n1_ n2_ n3_ n4_
                have n0_ := Aside0.mk (Kd.R_drew HO263.out)
                have n1_ := Aside0.mk (blk_drew BK258.out)
                have n2_ := Aside0.mk (blk_drew BK266.out)
                have n3_ := Aside0.mk (blk_drew BK267.out)
                have n4_ := Aside0.mk (below_drew1 HB.out)
                clear HO263
                clear BK258
                clear BK266
                clear BK267
                clear HB
                have HO263 := n0_
                have BK258 := n1_
                have BK266 := n2_
                have BK267 := n3_
                have HB := n4_
                clear n0_ n1_ n2_ n3_ n4_
                refine start_ (n := 21) (S := fun w' => w'.cell? ⟨gb266, 0, none⟩ = some (.int .i64 ((rd_T30 t261 a2).f0)) ∧ w'.cell? ⟨gb266, 1, none⟩ = some (.int .i64 ((rd_T30 t261 a2).f1)) ∧ w'.cell? ⟨gb267, 0, none⟩ = some (.int .i64 ((rd_T30 l0 (ji16)).f0)) ∧ w'.cell? ⟨gb267, 1, none⟩ = some (.int .i64 ((rd_T30 l0 (ji16)).f1))) (ds := []) #[false, false, false, false, false, false, false, false, false, false, false, false, false, false, false, false, false, false, false, false, false] (by kernel_rfl) rfl rfl ⟨(blk_cell BK266.out 0).trans rfl, (blk_cell BK266.out 1).trans rfl, (blk_cell BK267.out 0).trans rfl, (blk_cell BK267.out 1).trans rfl⟩ (fun hHeld => ?_); refine with_tabW impl_ParValue.tab4 impl_ParValue.bits4 (fun HT_ HW_ => ?_)
                generalize w31.drew = w32 at HO263 BK258 BK266 BK267 HB hHeld ⊢
                refine pure_ (i := 0) (N := some 30) (v := ?_) (a' := ?_) #[true, false, false, false, false, false, false, false, false, false, false, false, false, false, false, false, false, false, false, false, false] rfl rfl (any_of HT_.out (by kernel_rfl)) (fun _ _ _ h => h) (Or.inl ⟨by rfl, ?_⟩) ?_ ?_
                rotate_left
                · intro w'
                  go_simp
                  with_reducible rfl
                rotate_left
                · simp only [Act.put, sa_, sb_, sc_, i64_w, i32_w]
                  rfl
                refine pure_ (i := 1) (N := some 31) (v := ?_) (a' := ?_) #[true, true, false, false, false, false, false, false, false, false, false, false, false, false, false, false, false, false, false, false, false] rfl rfl (any_of HT_.out (by kernel_rfl)) (fun _ _ _ h => h) (Or.inl ⟨by rfl, ?_⟩) ?_ ?_
                rotate_left
                · intro w'
                  go_simp
                  with_reducible rfl
                rotate_left
                · simp only [Act.put, sa_, sb_, sc_, i64_w, i32_w]
                  rfl
                refine pure_ (i := 2) (N := some 32) (v := ?_) (a' := ?_) #[true, true, true, false, false, false, false, false, false, false, false, false, false, false, false, false, false, false, false, false, false] rfl rfl (any_of HT_.out (by kernel_rfl)) (fun _ _ _ h => h) (Or.inl ⟨by rfl, ?_⟩) ?_ ?_
                rotate_left
                · intro w'
                  go_simp
                  with_reducible rfl
                rotate_left
                · simp only [Act.put, sa_, sb_, sc_, i64_w, i32_w]
                  rfl
                refine pure_ (i := 6) (N := some 36) (v := ?_) (a' := ?_) #[true, true, true, false, false, false, true, false, false, false, false, false, false, false, false, false, false, false, false, false, false] rfl rfl (any_of HT_.out (by kernel_rfl)) (fun _ _ _ h => h) (Or.inl ⟨by rfl, ?_⟩) ?_ ?_
                rotate_left
                · intro w'
                  go_simp
                  with_reducible rfl
                rotate_left
                · simp only [Act.put, sa_, sb_, sc_, i64_w, i32_w]
                  rfl
                refine pure_ (i := 9) (N := some 39) (v := ?_) (a' := ?_) #[true, true, true, false, false, false, true, false, false, true, false, false, false, false, false, false, false, false, false, false, false] rfl rfl (any_of HT_.out (by kernel_rfl)) (fun _ _ _ h => h) (Or.inl ⟨by rfl, ?_⟩) ?_ ?_
                rotate_left
                · intro w'
                  go_simp
                  with_reducible rfl
                rotate_left
                · simp only [Act.put, sa_, sb_, sc_, i64_w, i32_w]
                  rfl
                refine pure_ (i := 10) (N := some 40) (v := ?_) (a' := ?_) #[true, true, true, false, false, false, true, false, false, true, true, false, false, false, false, false, false, false, false, false, false] rfl rfl (any_of HT_.out (by kernel_rfl)) (fun _ _ _ h => h) (Or.inl ⟨by rfl, ?_⟩) ?_ ?_
                rotate_left
                · intro w'
                  go_simp
                  with_reducible rfl
                rotate_left
                · simp only [Act.put, sa_, sb_, sc_, i64_w, i32_w]
                  rfl
                refine pure_ (i := 11) (N := some 41) (v := ?_) (a' := ?_) #[true, true, true, false, false, false, true, false, false, true, true, true, false, false, false, false, false, false, false, false, false] rfl rfl (any_of HT_.out (by kernel_rfl)) (fun _ _ _ h => h) (Or.inl ⟨by rfl, ?_⟩) ?_ ?_
                rotate_left
                · intro w'
                  go_simp
                  with_reducible rfl
                rotate_left
                · simp only [Act.put, sa_, sb_, sc_, i64_w, i32_w]
                  rfl
                refine pure_ (i := 15) (N := some 45) (v := ?_) (a' := ?_) #[true, true, true, false, false, false, true, false, false, true, true, true, false, false, false, true, false, false, false, false, false] rfl rfl (any_of HT_.out (by kernel_rfl)) (fun _ _ _ h => h) (Or.inl ⟨by rfl, ?_⟩) ?_ ?_
                rotate_left
                · intro w'
                  go_simp
                  with_reducible rfl
                rotate_left
                · simp only [Act.put, sa_, sb_, sc_, i64_w, i32_w]
                  rfl
                refine take_ (i := 3) (N := some 33) (v := ?_) (a' := ?_) #[true, true, true, true, false, false, true, false, false, true, true, true, false, false, false, true, false, false, false, false, false] rfl rfl (take_ofW HT_.out HW_.out (by kernel_rfl)) (fun _ _ _ h => h) (Or.inl ⟨by rfl, ?_⟩) hHeld ?_ ?_
                rotate_left
                · rintro w' ⟨s0, s1, s2, s3⟩
                  go_simp
                  with_reducible rfl
                rotate_left
                · simp only [Act.put, sa_, sb_, sc_, i64_w, i32_w]
                  rfl
                refine pure_ (i := 4) (N := some 34) (v := ?_) (a' := ?_) #[true, true, true, true, true, false, true, false, false, true, true, true, false, false, false, true, false, false, false, false, false] rfl rfl (any_of HT_.out (by kernel_rfl)) (fun _ _ _ h => h) (Or.inl ⟨by rfl, ?_⟩) ?_ ?_
                rotate_left
                · intro w'
                  go_simp
                  with_reducible rfl
                rotate_left
                · simp only [Act.put, sa_, sb_, sc_, i64_w, i32_w]
                  rfl
                refine take_ (i := 7) (N := some 37) (v := ?_) (a' := ?_) #[true, true, true, true, true, false, true, true, false, true, true, true, false, false, false, true, false, false, false, false, false] rfl rfl (take_ofW HT_.out HW_.out (by kernel_rfl)) (fun _ _ _ h => h) (Or.inl ⟨by rfl, ?_⟩) hHeld ?_ ?_
                rotate_left
                · rintro w' ⟨s0, s1, s2, s3⟩
                  go_simp
                  with_reducible rfl
                rotate_left
                · simp only [Act.put, sa_, sb_, sc_, i64_w, i32_w]
                  rfl
                refine take_ (i := 12) (N := some 42) (v := ?_) (a' := ?_) #[true, true, true, true, true, false, true, true, false, true, true, true, true, false, false, true, false, false, false, false, false] rfl rfl (take_ofW HT_.out HW_.out (by kernel_rfl)) (fun _ _ _ h => h) (Or.inl ⟨by rfl, ?_⟩) hHeld ?_ ?_
                rotate_left
                · rintro w' ⟨s0, s1, s2, s3⟩
                  go_simp
                  with_reducible rfl
                rotate_left
                · simp only [Act.put, sa_, sb_, sc_, i64_w, i32_w]
                  rfl
                refine pure_ (i := 13) (N := some 43) (v := ?_) (a' := ?_) #[true, true, true, true, true, false, true, true, false, true, true, true, true, true, false, true, false, false, false, false, false] rfl rfl (any_of HT_.out (by kernel_rfl)) (fun _ _ _ h => h) (Or.inl ⟨by rfl, ?_⟩) ?_ ?_
                rotate_left
                · intro w'
                  go_simp
                  with_reducible rfl
                rotate_left
                · simp only [Act.put, sa_, sb_, sc_, i64_w, i32_w]
                  rfl
                refine take_ (i := 16) (N := some 46) (v := ?_) (a' := ?_) #[true, true, true, true, true, false, true, true, false, true, true, true, true, true, false, true, true, false, false, false, false] rfl rfl (take_ofW HT_.out HW_.out (by kernel_rfl)) (fun _ _ _ h => h) (Or.inl ⟨by rfl, ?_⟩) hHeld ?_ ?_
                rotate_left
                · rintro w' ⟨s0, s1, s2, s3⟩
                  go_simp
                  with_reducible rfl
                rotate_left
                · simp only [Act.put, sa_, sb_, sc_, i64_w, i32_w]
                  rfl
                refine one_ (i := 5) (N := some 35) #[true, true, true, true, true, true, true, true, false, true, true, true, true, true, false, true, true, false, false, false, false] rfl rfl (one_of HT_.out (by kernel_rfl)) (by decide) (fun K hK => ?_)
                refine goes_ Tryd.func31 (by kernel_rfl) rfl #[.int .i64 (wrap64 ((wrap64 (100 * a1)) * ((rd_T30 t261 a2).f0))), .int .i64 1000000] (by rfl) rfl rfl (by (try simp only [List.map_toArray, List.map_cons, List.map_nil]); first | done | rfl | (simp only [List.length_drop, List.length_take]; rfl)) ?_
                with_reducible refine (impl_floor.calls (wrap64 ((wrap64 (100 * a1)) * ((rd_T30 t261 a2).f0))) 1000000 t268 _ A19.out).mono ?_
                rintro e w' ⟨rfl, ⟨nd, rfl⟩⟩
                refine ⟨_, rfl, ?_⟩
                refine hK.out _ _ ⟨(blk_cell BK266.out 0).trans rfl, (blk_cell BK266.out 1).trans rfl, (blk_cell BK267.out 0).trans rfl, (blk_cell BK267.out 1).trans rfl⟩ (fun hHeld => ?_)
                clear hK K
                refine norm_ (a' := ?_) ?_ ?_
                rotate_left
                · show Act.put _ (some 35) _ = _
                  simp only [Act.put, sa_, sb_, sc_, i64_w, i32_w]
                  rfl
                refine pure_ (i := 8) (N := some 38) (v := ?_) (a' := ?_) #[true, true, true, true, true, true, true, true, true, true, true, true, true, true, false, true, true, false, false, false, false] rfl rfl (any_of HT_.out (by kernel_rfl)) (fun _ _ _ h => h) (Or.inl ⟨by rfl, ?_⟩) ?_ ?_
                rotate_left
                · intro w'
                  go_simp
                  with_reducible rfl
                rotate_left
                · simp only [Act.put, sa_, sb_, sc_, i64_w, i32_w]
                  rfl
                refine one_ (i := 14) (N := some 44) #[true, true, true, true, true, true, true, true, true, true, true, true, true, true, true, true, true, false, false, false, false] rfl rfl (one_of HT_.out (by kernel_rfl)) (by decide) (fun K hK => ?_)
                refine goes_ Tryd.func32 (by kernel_rfl) rfl #[.int .i64 (wrap64 ((wrap64 (100 * a1)) * ((rd_T30 t261 a2).f1))), .int .i64 1000000] (by rfl) rfl rfl (by (try simp only [List.map_toArray, List.map_cons, List.map_nil]); first | done | rfl | (simp only [List.length_drop, List.length_take]; rfl)) ?_
                with_reducible refine (impl_ceil.calls (wrap64 ((wrap64 (100 * a1)) * ((rd_T30 t261 a2).f1))) 1000000 t269 _ A20.out).mono ?_
                rintro e w' ⟨rfl, ⟨nd, rfl⟩⟩
                refine ⟨_, rfl, ?_⟩
                refine hK.out _ _ ⟨(blk_cell BK266.out 0).trans rfl, (blk_cell BK266.out 1).trans rfl, (blk_cell BK267.out 0).trans rfl, (blk_cell BK267.out 1).trans rfl⟩ (fun hHeld => ?_)
                clear hK K
                refine norm_ (a' := ?_) ?_ ?_
                rotate_left
                · show Act.put _ (some 44) _ = _
                  simp only [Act.put, sa_, sb_, sc_, i64_w, i32_w]
                  rfl
                refine pure_ (i := 17) (N := some 47) (v := ?_) (a' := ?_) #[true, true, true, true, true, true, true, true, true, true, true, true, true, true, true, true, true, true, false, false, false] rfl rfl (any_of HT_.out (by kernel_rfl)) (fun _ _ _ h => h) (Or.inl ⟨by rfl, ?_⟩) ?_ ?_
                rotate_left
                · intro w'
                  go_simp
                  with_reducible rfl
                rotate_left
                · simp only [Act.put, sa_, sb_, sc_, i64_w, i32_w]
                  rfl
                refine pure_ (i := 18) (N := some 48) (v := ?_) (a' := ?_) #[true, true, true, true, true, true, true, true, true, true, true, true, true, true, true, true, true, true, true, false, false] rfl rfl (any_of HT_.out (by kernel_rfl)) (fun _ _ _ h => h) (Or.inl ⟨by rfl, ?_⟩) ?_ ?_
                rotate_left
                · intro w'
                  go_simp
                  with_reducible rfl
                rotate_left
                · simp only [Act.put, sa_, sb_, sc_, i64_w, i32_w]
                  rfl
                refine one_ (i := 19) (N := none) #[true, true, true, true, true, true, true, true, true, true, true, true, true, true, true, true, true, true, true, true, false] rfl rfl (one_of HT_.out (by kernel_rfl)) (by decide) (fun K hK => ?_)
                have hs33 : w32.cell? ⟨gb258, 0, none⟩ = some (.int .i64 0) := (blk_cell BK258.out 0).trans rfl
                have hfs33 := blk_frozen BK258.out 0
                have hns33_1 := NB266_258.out
                have hns33_2 := NB267_258.out
                have hms33_1 := NB258_266.out
                have hms33_2 := NB258_267.out
                have hs34 : w32.cell? ⟨gb258, 1, none⟩ = some (.int .i64 0) := (blk_cell BK258.out 1).trans rfl
                have hfs34 := blk_frozen BK258.out 1
                have hns34_1 := NB266_258.out
                have hns34_2 := NB267_258.out
                have hms34_1 := NB258_266.out
                have hms34_2 := NB258_267.out
                refine skip_ (w1 := ?_) (by rfl) rfl ?_ ?_
                rotate_left
                · go_simp
                  rfl
                refine hK.out _ _ ⟨((cell_far (p := ⟨gb258, _, none⟩) NB266_258.out _).trans (((cell_far (p := ⟨gb258, _, none⟩) NB266_258.out _).trans (hHeld.1)))), ((cell_far (p := ⟨gb258, _, none⟩) NB266_258.out _).trans (((cell_far (p := ⟨gb258, _, none⟩) NB266_258.out _).trans (hHeld.2.1)))), ((cell_far (p := ⟨gb258, _, none⟩) NB267_258.out _).trans (((cell_far (p := ⟨gb258, _, none⟩) NB267_258.out _).trans (hHeld.2.2.1)))), ((cell_far (p := ⟨gb258, _, none⟩) NB267_258.out _).trans (((cell_far (p := ⟨gb258, _, none⟩) NB267_258.out _).trans (hHeld.2.2.2))))⟩ (fun hHeld => ?_)
                clear hK K
                refine pure_ (i := 20) (N := some 7) (v := ?_) (a' := ?_) #[true, true, true, true, true, true, true, true, true, true, true, true, true, true, true, true, true, true, true, true, true] rfl rfl (any_of HT_.out (by kernel_rfl)) (fun _ _ _ h => h) (Or.inl ⟨by rfl, ?_⟩) ?_ ?_
                rotate_left
                · intro w'
                  go_simp
                  with_reducible rfl
                rotate_left
                · simp only [Act.put, sa_, sb_, sc_, i64_w, i32_w]
                  rfl
                refine done_ (done_of HT_.out (by kernel_rfl)) ?_
                try go_wp2
                refine bodyPost_ret (results_ct rfl _ _ gb258 30 #[.int .i64 (wrap64 (t268 + ((rd_T30 l0 (ji16)).f0))), .int .i64 (wrap64 (t269 + ((rd_T30 l0 (ji16)).f1)))] (0, 0) _ rfl (by (with_reducible repeat (first | refine blk_drewN ?_ _ | refine blk_drew ?_ | refine blk_alloc ?_ _)); refine blk_put (cs := #[.int .i64 (wrap64 (t268 + ((rd_T30 l0 (ji16)).f0))), .int .i64 0]) ?_ 1 _ rfl; (with_reducible repeat (first | refine blk_drewN ?_ _ | refine blk_drew ?_ | refine blk_alloc ?_ _)); refine blk_put (cs := #[.int .i64 0, .int .i64 0]) ?_ 0 _ rfl; (with_reducible repeat (first | refine blk_drewN ?_ _ | refine blk_drew ?_ | refine blk_alloc ?_ _)); exact BK258.out) Tryd.underlying30 rfl (by kernel_rfl)) rfl ?_
                exact ⟨by first | rfl | (simp [errW_none, errW_some] <;> rfl) | (simp only [← hji16]; first | rfl | (simp [errW_none, errW_some] <;> rfl)) | (simp [*, errW_none, errW_some] <;> rfl), by repeat (first | (with_reducible first | exact HB.out | apply below_alloc | apply pw_below_drewN | apply below_drew1 | refine below_set ?_ GE258.out | refine below_set ?_ GE266.out | refine below_set ?_ GE267.out) | exact HB.out)⟩
              · rw [if_neg c18] at H
                exact absurd H (by simp)
            · rw [if_neg c17] at H
              exact absurd H (by simp)
          · rw [if_neg c15] at H
            exact absurd H (by simp)
        · rw [if_neg c14] at H
          exact absurd H (by simp)

end Go.Proofs.YtpijjacnbpnlfaaDoor.Q

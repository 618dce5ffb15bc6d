/- Printed by a program (bprint.py) out of the translation: for each Go function a Lean function, and the proof that the call comes to its answers. Conditions: they stand in each theorem. -/
import Derived.Test.YtpijjacnbpnlfaaDoorQx0
import Derived.Test.YtpijjacnbpnlfaaDoorQx9
namespace Go.Proofs.YtpijjacnbpnlfaaDoor.Q
open Go.RowKit Go.Proofs.YtpijjacnbpnlfaaDoorW.PrintWords Go.Proofs.YtpijjacnbpnlfaaDoorW.PrintLast Go.Proofs.YtpijjacnbpnlfaaDoorW.PrintMore
attribute [local go_sem] max2_int min2_int max_two min_two max_three min_three max_four min_four   -- for this text's walks alone
set_option linter.unusedVariables false
set_option linter.unusedSimpArgs false
set_option linter.unusedSectionVars false
variable [Sent]

/-! ### impl_forward: function 37 -/
def impl_forward.f (l0 : List (S30)) (a1 : Int) : Option (Int × Int) := (impl_valueAfter.f l0 a1).bind fun bt332 => (if 0 ≤ a1 then (if a1 < (l0.length : Int) then ((impl_ratio.f bt332.1 bt332.2 ((rd_T30 l0 a1).f0) ((rd_T30 l0 a1).f1)).bind fun bt335 => (some (wrap64 (bt335.1 - 1000000), wrap64 (bt335.2 - 1000000)))) else (none)) else (none))
def impl_forward.T1 : Bool × List (List Nat × List Nat) := (true, [([], []), ([], []), ([0, 1], [0, 1]), ([], []), ([], []), ([3, 4], [3, 4]), ([5], [5]), ([2, 6, 2], [2, 6]), ([], []), ([8, 7, 7, 0, 1, 2, 3, 4, 5, 6, 7, 8], [7, 8])])
def impl_forward.B1 : List Nat := [0, 0, 3, 0, 0, 24, 56, 127, 0, 511]
theorem impl_forward.tab1 : rtab .any (opsOf Tryd.f37 1) = impl_forward.T1 := by kernel_rfl
theorem impl_forward.bits1 : waitsOk impl_forward.T1.2 impl_forward.B1 = true := by kernel_rfl
set_option maxHeartbeats 8000000 in
set_option maxRecDepth 100000 in
theorem impl_forward.calls (A0 : Option Addr) (c0 : Nat) (l0 : List (S30)) (a1 : Int) (r1 : Int) (r2 : Int) (w : World) (hr0 : Kd.C k30 w A0 l0.length l0) (hc0 : l0.length ≤ c0) (h : impl_forward.f l0 a1 = some (r1, r2)) :
    Calls Tryd.prog 37 #[.slice A0 l0.length c0, .int .i64 a1] w fun e w' => e = .returned (.agg #[.int .i64 r1, .int .i64 r2]) ∧ Below w.heap.size w w' := by
  have hu30 := Tryd.underlying30
  have HR0 := Aside0.mk hr0
  have HC0 := Aside0.mk hc0
  clear hr0 hc0
  have HB := Aside0.mk (Below.refl w.heap.size w)
  have H : ((impl_valueAfter.f l0 a1).bind fun bt332 => (if 0 ≤ a1 then (if a1 < (l0.length : Int) then ((impl_ratio.f bt332.1 bt332.2 ((rd_T30 l0 a1).f0) ((rd_T30 l0 a1).f1)).bind fun bt335 => (some (wrap64 (bt335.1 - 1000000), wrap64 (bt335.2 - 1000000)))) else (none)) else (none))) = some (r1, r2) := h
  clear h
  replace H := Option.bind_eq_some_iff.mp H
  obtain ⟨⟨t332, t333⟩, A30, H⟩ := H
  replace H : (if 0 ≤ a1 then (if a1 < (l0.length : Int) then ((impl_ratio.f t332 t333 ((rd_T30 l0 a1).f0) ((rd_T30 l0 a1).f1)).bind fun bt335 => (some (wrap64 (bt335.1 - 1000000), wrap64 (bt335.2 - 1000000)))) else (none)) else (none)) = some (r1, r2) := H
  have A3 := Aside0.mk A30
  clear A30
  by_cases c4 : 0 ≤ a1
  · rw [if_pos c4] at H
    have c4b0 : decide (0 ≤ a1) = true := decide_eq_true c4
    clear c4
    by_cases c5 : a1 < (l0.length : Int)
    · rw [if_pos c5] at H
      have c5b0 : decide (a1 < (l0.length : Int)) = true := decide_eq_true c5
      clear c5
      replace H := Option.bind_eq_some_iff.mp H
      obtain ⟨⟨t335, t336⟩, A60, H⟩ := H
      replace H : (some (wrap64 (t335 - 1000000), wrap64 (t336 - 1000000))) = some (r1, r2) := H
      have A6 := Aside0.mk A60
      clear A60
      simp only [Option.some.injEq, Prod.mk.injEq] at H
      obtain ⟨rfl, rfl⟩ := H
      go_enter Tryd.func37, Tryd.ntmps37
      try go_wp2_with (first | ((with_reducible refine gate_dst (N := 4) rfl ?_); refine box_event ?hg (N := 4) ?hd (cs := #[.int .i64 0, .int .i64 0]) (t := 30) ?hr ?_; (case hd => rfl); (case hg => rfl); (case hr => first | (go_simp; done) | (go_simp; rfl)); intro gb331 hg w7 hbox hb; have n0_ := Aside0.mk (below_step (bl_ HB) hb); have n1_ := Aside0.mk (hbox); have n2_ := Aside0.mk ((by rw [hg]; exact (below_size (bl_ HB)) : w.heap.size ≤ gb331)); have n3_ := Aside0.mk ((by rw [hg]; exact (below_size (bl_ HB)) : w.heap.size ≤ gb331)); clear HB; have HB := n0_; have BK331 := n1_; have GW331 := n2_; have GE331 := n3_; clear n0_ n1_ n2_ n3_; clear hb hbox hg))
      have n0_ := Aside0.mk (blk_drew BK331.out)
      have n1_ := Aside0.mk (below_drew1 HB.out)
      clear BK331
      clear HB
      have BK331 := n0_
      have HB := n1_
      clear n0_ n1_
      have p334 : 0 ≤ (a1 : Int) := of_decide_eq_true (by first | (with_reducible assumption) | assumption)
      have q334 : a1 < (l0.length : Int) := of_decide_eq_true (by first | (with_reducible assumption) | assumption)
      obtain ⟨ad334, e334, hx334_0, hx334_1⟩ := at_T30 HR0.out a1 p334 q334
      have hw334_1 := hx334_1
      have hw334_0 := hx334_0
      cases e334
      replace hx334_0 := (HB.out.cell (World.block_lt_of_cell? w _ hx334_0)).trans hx334_0
      replace hx334_1 := (HB.out.cell (World.block_lt_of_cell? w _ hx334_1)).trans hx334_1
      replace p334 := eq_true p334
      replace q334 := eq_true q334
      refine start_ (n := 10) (S := fun w' => w'.cell? (ad334.add ((a1).toNat * 2)) = some (.int .i64 ((rd_T30 l0 a1).f0)) ∧ w'.cell? ⟨(ad334.add ((a1).toNat * 2)).block, (ad334.add ((a1).toNat * 2)).off + 1, none⟩ = some (.int .i64 ((rd_T30 l0 a1).f1))) (ds := []) #[false, false, false, false, false, false, false, false, false, false] (by kernel_rfl) rfl rfl ⟨((HB.out.cell (World.block_lt_of_cell? w _ hw334_0)).trans hw334_0), ((HB.out.cell (World.block_lt_of_cell? w _ hw334_1)).trans hw334_1)⟩ (fun hHeld => ?_); refine with_tabW impl_forward.tab1 impl_forward.bits1 (fun HT_ HW_ => ?_)
      generalize w7.drew = w8 at BK331 HB hx334_0 hx334_1 hHeld ⊢
      refine pure_ (i := 0) (N := some 6) (v := ?_) (a' := ?_) #[true, false, false, false, false, false, false, false, false, false] rfl rfl (any_of HT_.out (by kernel_rfl)) (fun _ _ _ h => h) (Or.inl ⟨by rfl, ?_⟩) ?_ ?_
      rotate_left
      · intro w'
        go_simp
        with_reducible rfl
      rotate_left
      · simp only [Act.put, sa_, sb_, sc_, i64_w, i32_w]
        rfl
      refine pure_ (i := 1) (N := some 7) (v := ?_) (a' := ?_) #[true, true, false, false, false, false, false, false, false, false] rfl rfl (any_of HT_.out (by kernel_rfl)) (fun _ _ _ h => h) (Or.inl ⟨by rfl, ?_⟩) ?_ ?_
      rotate_left
      · intro w'
        go_simp
        with_reducible rfl
      rotate_left
      · simp only [Act.put, sa_, sb_, sc_, i64_w, i32_w]
        rfl
      refine pure_ (i := 3) (N := some 9) (v := ?_) (a' := ?_) #[true, true, false, true, false, false, false, false, false, false] rfl rfl (any_of HT_.out (by kernel_rfl)) (fun _ _ _ h => h) (Or.inl ⟨by rfl, ?_⟩) ?_ ?_
      rotate_left
      · intro w'
        go_simp
        with_reducible rfl
      rotate_left
      · simp only [Act.put, sa_, sb_, sc_, i64_w, i32_w]
        rfl
      refine pure_ (i := 4) (N := some 10) (v := ?_) (a' := ?_) #[true, true, false, true, true, false, false, false, false, false] rfl rfl (any_of HT_.out (by kernel_rfl)) (fun _ _ _ h => h) (Or.inl ⟨by rfl, ?_⟩) ?_ ?_
      rotate_left
      · intro w'
        go_simp
        with_reducible rfl
      rotate_left
      · simp only [Act.put, sa_, sb_, sc_, i64_w, i32_w]
        rfl
      refine pure_ (i := 5) (N := some 11) (v := ?_) (a' := ?_) #[true, true, false, true, true, true, false, false, false, false] rfl rfl (any_of HT_.out (by kernel_rfl)) (fun _ _ _ h => h) (Or.inl ⟨by rfl, ?_⟩) ?_ ?_
      rotate_left
      · intro w'
        go_simp
        with_reducible rfl
      rotate_left
      · simp only [Act.put, sa_, sb_, sc_, i64_w, i32_w]
        rfl
      refine take_ (i := 6) (N := some 12) (v := ?_) (a' := ?_) #[true, true, false, true, true, true, true, false, false, false] rfl rfl (take_ofW HT_.out HW_.out (by kernel_rfl)) (fun _ _ _ h => h) (Or.inl ⟨by rfl, ?_⟩) hHeld ?_ ?_
      rotate_left
      · rintro w' ⟨s0, s1⟩
        go_simp
        with_reducible rfl
      rotate_left
      · simp only [Act.put, sa_, sb_, sc_, i64_w, i32_w]
        rfl
      refine join_ (σ := Nat) 1 #[true, true, true, true, true, true, true, true, true, false] (fun s_ => [(8, .agg #[.int .i64 t332, .int .i64 t333]), (13, .agg #[.int .i64 t335, .int .i64 t336]), (5, .pointer (some ⟨s_, 0, none⟩))]) (fun s_ w' => (w'.cell? (ad334.add ((a1).toNat * 2)) = some (.int .i64 ((rd_T30 l0 a1).f0)) ∧ w'.cell? ⟨(ad334.add ((a1).toNat * 2)).block, (ad334.add ((a1).toNat * 2)).off + 1, none⟩ = some (.int .i64 ((rd_T30 l0 a1).f1))) ∧ (w'.heap[gb331]? = some (.cells #[.int .i64 0, .int .i64 0] 30 (0, 0))) ∧ (w'.heap[s_]? = some (.cells #[.int .i64 0, .int .i64 0] 30 (0, 0))) ∧ (w.heap.size ≤ s_) ∧ (w.heap.size ≤ s_) ∧ (gb331 ≠ s_) ∧ (s_ ≠ gb331) ∧ (Below w.heap.size w w')) ?_ ?_
      rotate_left
      · intro hCont
        refine two_ (i := 2) (j := 8) (Ni := some 8) (Nj := some 5) #[true, true, true, true, true, true, true, false, false, false] #[true, true, false, true, true, true, true, false, true, false] rfl rfl rfl rfl (two_of HT_.out (by kernel_rfl)) (by decide) (by decide) (fun K hK => ?_) (fun K hK => ?_)
        · skip
          refine goes_ Tryd.func38 (by kernel_rfl) rfl #[.slice (some ad334) l0.length c0, .int .i64 a1] (by rfl) rfl rfl (by (try simp only [List.map_toArray, List.map_cons, List.map_nil]); first | done | rfl | (simp only [List.length_drop, List.length_take]; rfl)) ?_
          with_reducible refine (impl_valueAfter.calls _ _ l0 a1 t332 t333 _ ?side1 ?side2 A3.out).mono ?_
          (case side1 => repeat (first | exact (Kd.C_below HR0.out HB.out) | (with_reducible refine Kd.C_alloc ?_ _) | (with_reducible refine Kd.C_drewN ?_ _) | (with_reducible refine Kd.C_drew ?_)))
          (case side2 => exact HC0.out)
          rintro e w9 ⟨rfl, hb⟩
          refine ⟨_, rfl, ?_⟩
          have n0_ := Aside0.mk (blk_below (g := gb331) (o := .cells #[.int .i64 0, .int .i64 0] 30 (0, 0)) (bk_ BK331) hb)
          have n1_ := Aside0.mk (below_step (bl_ HB) hb)
          clear BK331
          clear HB
          have BK331 := n0_
          have HB := n1_
          clear n0_ n1_
          (try clear hb)
          (try clear hb2)
          (try clear hk)
          (try clear hi)
          refine hK.out _ _ ⟨((HB.out.cell (World.block_lt_of_cell? w _ hw334_0)).trans hw334_0), ((HB.out.cell (World.block_lt_of_cell? w _ hw334_1)).trans hw334_1)⟩ (fun hHeld => ?_)
          clear hK K
          refine norm_ (a' := ?_) ?_ ?_
          rotate_left
          · show Act.put _ (some 8) _ = _
            simp only [Act.put, sa_, sb_, sc_, i64_w, i32_w]
            rfl
          refine two_ (i := 7) (j := 8) (Ni := some 13) (Nj := some 5) #[true, true, true, true, true, true, true, true, false, false] #[true, true, true, true, true, true, true, false, true, false] rfl rfl rfl rfl (two_of HT_.out (by kernel_rfl)) (by decide) (by decide) (fun K hK => ?_) (fun K hK => ?_)
          · skip
            refine goes_ Tryd.func49 (by kernel_rfl) rfl #[.agg #[.int .i64 t332, .int .i64 t333], .agg #[.int .i64 ((rd_T30 l0 a1).f0), .int .i64 ((rd_T30 l0 a1).f1)]] (by rfl) rfl rfl (by (try simp only [List.map_toArray, List.map_cons, List.map_nil]); first | done | rfl | (simp only [List.length_drop, List.length_take]; rfl)) ?_
            with_reducible refine (impl_ratio.calls t332 t333 ((rd_T30 l0 a1).f0) ((rd_T30 l0 a1).f1) t335 t336 _ A6.out).mono ?_
            rintro e w10 ⟨rfl, hb⟩
            refine ⟨_, rfl, ?_⟩
            have n0_ := Aside0.mk (blk_below (g := gb331) (o := .cells #[.int .i64 0, .int .i64 0] 30 (0, 0)) (bk_ BK331) hb)
            have n1_ := Aside0.mk (below_step (bl_ HB) hb)
            clear BK331
            clear HB
            have BK331 := n0_
            have HB := n1_
            clear n0_ n1_
            (try clear hb)
            (try clear hb2)
            (try clear hk)
            (try clear hi)
            refine hK.out _ _ ⟨((HB.out.cell (World.block_lt_of_cell? w _ hw334_0)).trans hw334_0), ((HB.out.cell (World.block_lt_of_cell? w _ hw334_1)).trans hw334_1)⟩ (fun hHeld => ?_)
            clear hK K
            refine norm_ (a' := ?_) ?_ ?_
            rotate_left
            · show Act.put _ (some 13) _ = _
              simp only [Act.put, sa_, sb_, sc_, i64_w, i32_w]
              rfl
            refine one_ (i := 8) (N := some 5) #[true, true, true, true, true, true, true, true, true, false] rfl rfl (one_of HT_.out (by kernel_rfl)) (by decide) (fun K hK => ?_)
            refine box_step ?hg (N := 5) ?hd (cs := #[.int .i64 0, .int .i64 0]) (t := 30) ?hr ?_; (case hd => rfl); (case hg => rfl); (case hr => first | (go_simp; done) | (go_simp; rfl))
            intro gb337 hg w11 hbox hb
            have n0_ := Aside0.mk (blk_below (g := gb331) (o := .cells #[.int .i64 0, .int .i64 0] 30 (0, 0)) (bk_ BK331) hb)
            have n1_ := Aside0.mk (below_step (bl_ HB) hb)
            have n2_ := Aside0.mk (hbox)
            have n3_ := Aside0.mk ((by rw [hg]; exact (below_size (bl_ HB)) : w.heap.size ≤ gb337))
            have n4_ := Aside0.mk ((by rw [hg]; exact (below_size (bl_ HB)) : w.heap.size ≤ gb337))
            have n5_ := Aside0.mk ((by rw [hg]; exact Nat.ne_of_lt (blk_lt (g := gb331) (o := .cells #[.int .i64 0, .int .i64 0] 30 (0, 0)) (bk_ BK331)) : gb331 ≠ gb337))
            have n6_ := Aside0.mk ((by rw [hg]; exact Nat.ne_of_gt (blk_lt (g := gb331) (o := .cells #[.int .i64 0, .int .i64 0] 30 (0, 0)) (bk_ BK331)) : gb337 ≠ gb331))
            clear BK331
            clear HB
            have BK331 := n0_
            have HB := n1_
            have BK337 := n2_
            have GW337 := n3_
            have GE337 := n4_
            have NB331_337 := n5_
            have NB337_331 := n6_
            clear n0_ n1_ n2_ n3_ n4_ n5_ n6_
            clear hb hbox hg
            refine hK.out _ _ ⟨((HB.out.cell (World.block_lt_of_cell? w _ hw334_0)).trans hw334_0), ((HB.out.cell (World.block_lt_of_cell? w _ hw334_1)).trans hw334_1)⟩ (fun hHeld => ?_)
            clear hK K
            refine norm_ (a' := ?_) ?_ ?_
            rotate_left
            · show Act.put _ (some 5) _ = _
              simp only [Act.put, sa_, sb_, sc_, i64_w, i32_w]
              rfl
            exact norm_ (by simp only [putAll, Act.put, sa_, sb_, sc_]) (hCont (gb337) _ ⟨hHeld, (bk_ BK331), (bk_ BK337), GW337.out, GE337.out, NB331_337.out, NB337_331.out, (bl_ HB)⟩)
          · skip
            refine box_step ?hg (N := 5) ?hd (cs := #[.int .i64 0, .int .i64 0]) (t := 30) ?hr ?_; (case hd => rfl); (case hg => rfl); (case hr => first | (go_simp; done) | (go_simp; rfl))
            intro gb337 hg w10 hbox hb
            have n0_ := Aside0.mk (blk_below (g := gb331) (o := .cells #[.int .i64 0, .int .i64 0] 30 (0, 0)) (bk_ BK331) hb)
            have n1_ := Aside0.mk (below_step (bl_ HB) hb)
            have n2_ := Aside0.mk (hbox)
            have n3_ := Aside0.mk ((by rw [hg]; exact (below_size (bl_ HB)) : w.heap.size ≤ gb337))
            have n4_ := Aside0.mk ((by rw [hg]; exact (below_size (bl_ HB)) : w.heap.size ≤ gb337))
            have n5_ := Aside0.mk ((by rw [hg]; exact Nat.ne_of_lt (blk_lt (g := gb331) (o := .cells #[.int .i64 0, .int .i64 0] 30 (0, 0)) (bk_ BK331)) : gb331 ≠ gb337))
            have n6_ := Aside0.mk ((by rw [hg]; exact Nat.ne_of_gt (blk_lt (g := gb331) (o := .cells #[.int .i64 0, .int .i64 0] 30 (0, 0)) (bk_ BK331)) : gb337 ≠ gb331))
            clear BK331
            clear HB
            have BK331 := n0_
            have HB := n1_
            have BK337 := n2_
            have GW337 := n3_
            have GE337 := n4_
            have NB331_337 := n5_
            have NB337_331 := n6_
            clear n0_ n1_ n2_ n3_ n4_ n5_ n6_
            clear hb hbox hg
            refine hK.out _ _ ⟨((HB.out.cell (World.block_lt_of_cell? w _ hw334_0)).trans hw334_0), ((HB.out.cell (World.block_lt_of_cell? w _ hw334_1)).trans hw334_1)⟩ (fun hHeld => ?_)
            clear hK K
            refine norm_ (a' := ?_) ?_ ?_
            rotate_left
            · show Act.put _ (some 5) _ = _
              simp only [Act.put, sa_, sb_, sc_, i64_w, i32_w]
              rfl
            refine one_ (i := 7) (N := some 13) #[true, true, true, true, true, true, true, true, true, false] rfl rfl (one_of HT_.out (by kernel_rfl)) (by decide) (fun K hK => ?_)
            refine goes_ Tryd.func49 (by kernel_rfl) rfl #[.agg #[.int .i64 t332, .int .i64 t333], .agg #[.int .i64 ((rd_T30 l0 a1).f0), .int .i64 ((rd_T30 l0 a1).f1)]] (by rfl) rfl rfl (by (try simp only [List.map_toArray, List.map_cons, List.map_nil]); first | done | rfl | (simp only [List.length_drop, List.length_take]; rfl)) ?_
            with_reducible refine (impl_ratio.calls t332 t333 ((rd_T30 l0 a1).f0) ((rd_T30 l0 a1).f1) t335 t336 _ A6.out).mono ?_
            rintro e w11 ⟨rfl, hb⟩
            refine ⟨_, rfl, ?_⟩
            have n0_ := Aside0.mk (blk_below (g := gb331) (o := .cells #[.int .i64 0, .int .i64 0] 30 (0, 0)) (bk_ BK331) hb)
            have n1_ := Aside0.mk (blk_below (g := gb337) (o := .cells #[.int .i64 0, .int .i64 0] 30 (0, 0)) (bk_ BK337) hb)
            have n2_ := Aside0.mk (below_step (bl_ HB) hb)
            clear BK331
            clear BK337
            clear HB
            have BK331 := n0_
            have BK337 := n1_
            have HB := n2_
            clear n0_ n1_ n2_
            (try clear hb)
            (try clear hb2)
            (try clear hk)
            (try clear hi)
            refine hK.out _ _ ⟨((HB.out.cell (World.block_lt_of_cell? w _ hw334_0)).trans hw334_0), ((HB.out.cell (World.block_lt_of_cell? w _ hw334_1)).trans hw334_1)⟩ (fun hHeld => ?_)
            clear hK K
            refine norm_ (a' := ?_) ?_ ?_
            rotate_left
            · show Act.put _ (some 13) _ = _
              simp only [Act.put, sa_, sb_, sc_, i64_w, i32_w]
              rfl
            exact norm_ (by simp only [putAll, Act.put, sa_, sb_, sc_]) (hCont (gb337) _ ⟨hHeld, (bk_ BK331), (bk_ BK337), GW337.out, GE337.out, NB331_337.out, NB337_331.out, (bl_ HB)⟩)
        · skip
          refine box_step ?hg (N := 5) ?hd (cs := #[.int .i64 0, .int .i64 0]) (t := 30) ?hr ?_; (case hd => rfl); (case hg => rfl); (case hr => first | (go_simp; done) | (go_simp; rfl))
          intro gb337 hg w9 hbox hb
          have n0_ := Aside0.mk (blk_below (g := gb331) (o := .cells #[.int .i64 0, .int .i64 0] 30 (0, 0)) (bk_ BK331) hb)
          have n1_ := Aside0.mk (below_step (bl_ HB) hb)
          have n2_ := Aside0.mk (hbox)
          have n3_ := Aside0.mk ((by rw [hg]; exact (below_size (bl_ HB)) : w.heap.size ≤ gb337))
          have n4_ := Aside0.mk ((by rw [hg]; exact (below_size (bl_ HB)) : w.heap.size ≤ gb337))
          have n5_ := Aside0.mk ((by rw [hg]; exact Nat.ne_of_lt (blk_lt (g := gb331) (o := .cells #[.int .i64 0, .int .i64 0] 30 (0, 0)) (bk_ BK331)) : gb331 ≠ gb337))
          have n6_ := Aside0.mk ((by rw [hg]; exact Nat.ne_of_gt (blk_lt (g := gb331) (o := .cells #[.int .i64 0, .int .i64 0] 30 (0, 0)) (bk_ BK331)) : gb337 ≠ gb331))
          clear BK331
          clear HB
          have BK331 := n0_
          have HB := n1_
          have BK337 := n2_
          have GW337 := n3_
          have GE337 := n4_
          have NB331_337 := n5_
          have NB337_331 := n6_
          clear n0_ n1_ n2_ n3_ n4_ n5_ n6_
          clear hb hbox hg
          refine hK.out _ _ ⟨((HB.out.cell (World.block_lt_of_cell? w _ hw334_0)).trans hw334_0), ((HB.out.cell (World.block_lt_of_cell? w _ hw334_1)).trans hw334_1)⟩ (fun hHeld => ?_)
          clear hK K
          refine norm_ (a' := ?_) ?_ ?_
          rotate_left
          · show Act.put _ (some 5) _ = _
            simp only [Act.put, sa_, sb_, sc_, i64_w, i32_w]
            rfl
          refine one_ (i := 2) (N := some 8) #[true, true, true, true, true, true, true, false, true, false] rfl rfl (one_of HT_.out (by kernel_rfl)) (by decide) (fun K hK => ?_)
          refine goes_ Tryd.func38 (by kernel_rfl) rfl #[.slice (some ad334) l0.length c0, .int .i64 a1] (by rfl) rfl rfl (by (try simp only [List.map_toArray, List.map_cons, List.map_nil]); first | done | rfl | (simp only [List.length_drop, List.length_take]; rfl)) ?_
          with_reducible refine (impl_valueAfter.calls _ _ l0 a1 t332 t333 _ ?side1 ?side2 A3.out).mono ?_
          (case side1 => repeat (first | exact (Kd.C_below HR0.out HB.out) | (with_reducible refine Kd.C_alloc ?_ _) | (with_reducible refine Kd.C_drewN ?_ _) | (with_reducible refine Kd.C_drew ?_)))
          (case side2 => exact HC0.out)
          rintro e w10 ⟨rfl, hb⟩
          refine ⟨_, rfl, ?_⟩
          have n0_ := Aside0.mk (blk_below (g := gb331) (o := .cells #[.int .i64 0, .int .i64 0] 30 (0, 0)) (bk_ BK331) hb)
          have n1_ := Aside0.mk (blk_below (g := gb337) (o := .cells #[.int .i64 0, .int .i64 0] 30 (0, 0)) (bk_ BK337) hb)
          have n2_ := Aside0.mk (below_step (bl_ HB) hb)
          clear BK331
          clear BK337
          clear HB
          have BK331 := n0_
          have BK337 := n1_
          have HB := n2_
          clear n0_ n1_ n2_
          (try clear hb)
          (try clear hb2)
          (try clear hk)
          (try clear hi)
          refine hK.out _ _ ⟨((HB.out.cell (World.block_lt_of_cell? w _ hw334_0)).trans hw334_0), ((HB.out.cell (World.block_lt_of_cell? w _ hw334_1)).trans hw334_1)⟩ (fun hHeld => ?_)
          clear hK K
          refine norm_ (a' := ?_) ?_ ?_
          rotate_left
          · show Act.put _ (some 8) _ = _
            simp only [Act.put, sa_, sb_, sc_, i64_w, i32_w]
            rfl
          refine one_ (i := 7) (N := some 13) #[true, true, true, true, true, true, true, true, true, false] rfl rfl (one_of HT_.out (by kernel_rfl)) (by decide) (fun K hK => ?_)
          refine goes_ Tryd.func49 (by kernel_rfl) rfl #[.agg #[.int .i64 t332, .int .i64 t333], .agg #[.int .i64 ((rd_T30 l0 a1).f0), .int .i64 ((rd_T30 l0 a1).f1)]] (by rfl) rfl rfl (by (try simp only [List.map_toArray, List.map_cons, List.map_nil]); first | done | rfl | (simp only [List.length_drop, List.length_take]; rfl)) ?_
          with_reducible refine (impl_ratio.calls t332 t333 ((rd_T30 l0 a1).f0) ((rd_T30 l0 a1).f1) t335 t336 _ A6.out).mono ?_
          rintro e w11 ⟨rfl, hb⟩
          refine ⟨_, rfl, ?_⟩
          have n0_ := Aside0.mk (blk_below (g := gb331) (o := .cells #[.int .i64 0, .int .i64 0] 30 (0, 0)) (bk_ BK331) hb)
          have n1_ := Aside0.mk (blk_below (g := gb337) (o := .cells #[.int .i64 0, .int .i64 0] 30 (0, 0)) (bk_ BK337) hb)
          have n2_ := Aside0.mk (below_step (bl_ HB) hb)
          clear BK331
          clear BK337
          clear HB
          have BK331 := n0_
          have BK337 := n1_
          have HB := n2_
          clear n0_ n1_ n2_
          (try clear hb)
          (try clear hb2)
          (try clear hk)
          (try clear hi)
          refine hK.out _ _ ⟨((HB.out.cell (World.block_lt_of_cell? w _ hw334_0)).trans hw334_0), ((HB.out.cell (World.block_lt_of_cell? w _ hw334_1)).trans hw334_1)⟩ (fun hHeld => ?_)
          clear hK K
          refine norm_ (a' := ?_) ?_ ?_
          rotate_left
          · show Act.put _ (some 13) _ = _
            simp only [Act.put, sa_, sb_, sc_, i64_w, i32_w]
            rfl
          exact norm_ (by simp only [putAll, Act.put, sa_, sb_, sc_]) (hCont (gb337) _ ⟨hHeld, (bk_ BK331), (bk_ BK337), GW337.out, GE337.out, NB331_337.out, NB337_331.out, (bl_ HB)⟩)
      rintro gb337 w12 ⟨hS_, h0_, h1_, h2_, h3_, h4_, h5_, h6_⟩
      have n0_ : Aside0 (w12.heap[gb331]? = some (.cells #[.int .i64 0, .int .i64 0] 30 (0, 0))) := ⟨h0_⟩
      have n1_ : Aside0 (w12.heap[gb337]? = some (.cells #[.int .i64 0, .int .i64 0] 30 (0, 0))) := ⟨h1_⟩
      have n2_ : Aside0 (w.heap.size ≤ gb337) := ⟨h2_⟩
      have n3_ : Aside0 (w.heap.size ≤ gb337) := ⟨h3_⟩
      have n4_ : Aside0 (gb331 ≠ gb337) := ⟨h4_⟩
      have n5_ : Aside0 (gb337 ≠ gb331) := ⟨h5_⟩
      have n6_ : Aside0 (Below w.heap.size w w12) := ⟨h6_⟩
      clear BK331
      clear HB
      clear h0_ h1_ h2_ h3_ h4_ h5_ h6_
      have BK331 := n0_
      have BK337 := n1_
      have GW337 := n2_
      have GE337 := n3_
      have NB331_337 := n4_
      have NB337_331 := n5_
      have HB := n6_
      clear n0_ n1_ n2_ n3_ n4_ n5_ n6_
      have hHeld : w12.cell? (ad334.add ((a1).toNat * 2)) = some (.int .i64 ((rd_T30 l0 a1).f0)) ∧ w12.cell? ⟨(ad334.add ((a1).toNat * 2)).block, (ad334.add ((a1).toNat * 2)).off + 1, none⟩ = some (.int .i64 ((rd_T30 l0 a1).f1)) := hS_
      refine norm_ (a' := ?_) ?_ ?_
      rotate_left
      · simp only [putAll, Act.put, sa_, sb_, sc_]
        rfl
      refine one_ (i := 9) (N := none) #[true, true, true, true, true, true, true, true, true, true] rfl rfl (one_of HT_.out (by kernel_rfl)) (by decide) (fun K hK => ?_)
      have hs13 : w12.cell? ⟨gb337, 0, none⟩ = some (.int .i64 0) := (blk_cell BK337.out 0).trans rfl
      have hfs13 := blk_frozen BK337.out 0
      have hns13_0 := NB331_337.out
      have hms13_0 := NB337_331.out
      have hs14 : w12.cell? ⟨gb337, 1, none⟩ = some (.int .i64 0) := (blk_cell BK337.out 1).trans rfl
      have hfs14 := blk_frozen BK337.out 1
      have hns14_0 := NB331_337.out
      have hms14_0 := NB337_331.out
      refine skip_ (w1 := ?_) (by rfl) rfl ?_ ?_
      rotate_left
      · go_simp
        rfl
      refine hK.out _ _ ⟨((cell_far (p := ⟨gb337, _, none⟩) (by first | exact Nat.ne_of_lt (Nat.lt_of_lt_of_le (by have := World.block_lt_of_cell? _ _ hw334_0; first | rwa [add_block] at this | exact this) GW337.out) | (rw [add_block]; exact Nat.ne_of_lt (Nat.lt_of_lt_of_le (by have := World.block_lt_of_cell? _ _ hw334_0; first | rwa [add_block] at this | exact this) GW337.out)) | (show (Addr.add _ _).block ≠ _; rw [add_block]; exact Nat.ne_of_lt (Nat.lt_of_lt_of_le (by have := World.block_lt_of_cell? _ _ hw334_0; first | rwa [add_block] at this | exact this) GW337.out)) | (dsimp only; exact Nat.ne_of_lt (Nat.lt_of_lt_of_le (by have := World.block_lt_of_cell? _ _ hw334_0; first | rwa [add_block] at this | exact this) GW337.out))) _).trans (((cell_far (p := ⟨gb337, _, none⟩) (by first | exact Nat.ne_of_lt (Nat.lt_of_lt_of_le (by have := World.block_lt_of_cell? _ _ hw334_0; first | rwa [add_block] at this | exact this) GW337.out) | (rw [add_block]; exact Nat.ne_of_lt (Nat.lt_of_lt_of_le (by have := World.block_lt_of_cell? _ _ hw334_0; first | rwa [add_block] at this | exact this) GW337.out)) | (show (Addr.add _ _).block ≠ _; rw [add_block]; exact Nat.ne_of_lt (Nat.lt_of_lt_of_le (by have := World.block_lt_of_cell? _ _ hw334_0; first | rwa [add_block] at this | exact this) GW337.out)) | (dsimp only; exact Nat.ne_of_lt (Nat.lt_of_lt_of_le (by have := World.block_lt_of_cell? _ _ hw334_0; first | rwa [add_block] at this | exact this) GW337.out))) _).trans (hHeld.1)))), ((cell_far (p := ⟨gb337, _, none⟩) (by first | exact Nat.ne_of_lt (Nat.lt_of_lt_of_le (by have := World.block_lt_of_cell? _ _ hw334_1; first | rwa [add_block] at this | exact this) GW337.out) | (rw [add_block]; exact Nat.ne_of_lt (Nat.lt_of_lt_of_le (by have := World.block_lt_of_cell? _ _ hw334_1; first | rwa [add_block] at this | exact this) GW337.out)) | (show (Addr.add _ _).block ≠ _; rw [add_block]; exact Nat.ne_of_lt (Nat.lt_of_lt_of_le (by have := World.block_lt_of_cell? _ _ hw334_1; first | rwa [add_block] at this | exact this) GW337.out)) | (dsimp only; exact Nat.ne_of_lt (Nat.lt_of_lt_of_le (by have := World.block_lt_of_cell? _ _ hw334_1; first | rwa [add_block] at this | exact this) GW337.out))) _).trans (((cell_far (p := ⟨gb337, _, none⟩) (by first | exact Nat.ne_of_lt (Nat.lt_of_lt_of_le (by have := World.block_lt_of_cell? _ _ hw334_1; first | rwa [add_block] at this | exact this) GW337.out) | (rw [add_block]; exact Nat.ne_of_lt (Nat.lt_of_lt_of_le (by have := World.block_lt_of_cell? _ _ hw334_1; first | rwa [add_block] at this | exact this) GW337.out)) | (show (Addr.add _ _).block ≠ _; rw [add_block]; exact Nat.ne_of_lt (Nat.lt_of_lt_of_le (by have := World.block_lt_of_cell? _ _ hw334_1; first | rwa [add_block] at this | exact this) GW337.out)) | (dsimp only; exact Nat.ne_of_lt (Nat.lt_of_lt_of_le (by have := World.block_lt_of_cell? _ _ hw334_1; first | rwa [add_block] at this | exact this) GW337.out))) _).trans (hHeld.2))))⟩ (fun hHeld => ?_)
      clear hK K
      refine done_ (done_of HT_.out (by kernel_rfl)) ?_
      have hnb15 := NB337_331.out
      have hnc15 := NB331_337.out
      have hcz16_0 : w12.cell? ⟨gb337, 0, none⟩ = some (.int .i64 0) := (blk_cell BK337.out 0).trans rfl
      have hcz16_1 : w12.cell? ⟨gb337, 1, none⟩ = some (.int .i64 0) := (blk_cell BK337.out 1).trans rfl
      have hfz16_0 := blk_frozen BK337.out 0
      have hfz16_1 := blk_frozen BK337.out 1
      have hcz17_0 : w12.cell? ⟨gb331, 0, none⟩ = some (.int .i64 0) := (blk_cell BK331.out 0).trans rfl
      have hcz17_1 : w12.cell? ⟨gb331, 1, none⟩ = some (.int .i64 0) := (blk_cell BK331.out 1).trans rfl
      have hfz17_0 := blk_frozen BK331.out 0
      have hfz17_1 := blk_frozen BK331.out 1
      try go_wp2
      refine bodyPost_ret (results_cell_row rfl _ _ gb331 30 #[.int .i64 (wrap64 (t335 - 1000000)), .int .i64 (wrap64 (t336 - 1000000))] (0, 0) _ rfl (by (with_reducible repeat (first | refine blk_drewN ?_ _ | refine blk_drew ?_ | refine blk_alloc ?_ _)); refine blk_put (cs := #[.int .i64 (wrap64 (t335 - 1000000)), .int .i64 0]) ?_ 1 _ rfl; (with_reducible repeat (first | refine blk_drewN ?_ _ | refine blk_drew ?_ | refine blk_alloc ?_ _)); refine blk_put (cs := #[.int .i64 0, .int .i64 0]) ?_ 0 _ rfl; (with_reducible repeat (first | refine blk_drewN ?_ _ | refine blk_drew ?_ | refine blk_alloc ?_ _)); refine blk_far ?_ NB331_337.out _; (with_reducible repeat (first | refine blk_drewN ?_ _ | refine blk_drew ?_ | refine blk_alloc ?_ _)); refine blk_far ?_ NB331_337.out _; (with_reducible repeat (first | refine blk_drewN ?_ _ | refine blk_drew ?_ | refine blk_alloc ?_ _)); exact BK331.out) Tryd.underlying30 rfl (by kernel_rfl)) rfl ?_
      exact ⟨by first | rfl | (simp [errW_none, errW_some] <;> rfl) | (simp [*, errW_none, errW_some] <;> rfl), by repeat (first | (with_reducible first | exact HB.out | apply below_alloc | apply pw_below_drewN | apply below_drew1 | refine below_set ?_ GE331.out | refine below_set ?_ GE337.out) | exact HB.out)⟩
    · rw [if_neg c5] at H
      exact absurd H (by simp)
  · rw [if_neg c4] at H
    exact absurd H (by simp)

end Go.Proofs.YtpijjacnbpnlfaaDoor.Q
